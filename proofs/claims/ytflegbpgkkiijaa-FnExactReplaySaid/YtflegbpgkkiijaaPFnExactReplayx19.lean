-- PRINTED by print.py (a twelfth state) out of the translation. Not trusted: Lean checks it.
import Derived.Test.YtflegbpgkkiijaaPFnExactReplayx0
import Derived.Test.YtflegbpgkkiijaaPFnExactReplayx9
import Derived.Test.YtflegbpgkkiijaaPFnExactReplayx16
import Derived.Test.YtflegbpgkkiijaaPFnExactReplayx17
import Derived.Test.YtflegbpgkkiijaaPFnExactReplayx18
import Derived.Test.YtflegbpgkkiijaaZip
namespace Go.Proofs.Ytflegbpgkkiijaa.PFnExactReplay
open Go.RowKit Go.Proofs.YtflegbpgkkiijaaW.PrintWords Go.Proofs.YtflegbpgkkiijaaW.PrintLast Go.Proofs.YtflegbpgkkiijaaW.PrintMore Go.Proofs.Ytflegbpgkkiijaa.Zip
attribute [local go_sem] max2_int min2_int max_two min_two max_three min_three max_four min_four   -- for this text's walks alone
set_option linter.unusedVariables false
set_option linter.unusedSimpArgs false

/-! ### laws_FnExactReplay: function 3 -/
mutual
def laws_FnExactReplay.j0 : Nat → ByteArray → Int → Bool → Bool → Int → Int → Int → Int → List (S51) → Int → Int → Int → Int → List (S51) → Option (Bool)
 | 0, _, _, _, _, _, _, _, _, _, _, _, _, _, _ => none
 | k + 1, x0, x4, x5, x42, x411000, x411001, x411002, x411003, x411004, x421000, x421001, x421002, x421003, x421004 => if x42 = true then (some false) else ((laws_markWal.f k x421000 x421001 x421002 x421003 x421004 1).bind fun bt422 => ((laws_heldWal.f k x421000 x421001 x421002 x421003 bt422.2 1).bind fun t424 => (if t424 < 0 then (some false) else (if t424 = bt422.1 then ((impl_Replay.f k x0).bind fun bt425 => ((laws_eqWal.f k bt425.1 bt425.2.1 bt425.2.2.1 bt425.2.2.2.1 bt425.2.2.2.2.1 x411000 x411001 x411002 x411003 x411004).bind fun t435 => (if t435 = true then (if bt425.2.2.2.2.2.1 = x4 then (laws_FnExactReplay.j1 k bt422.1 (bt425.2.2.2.2.2.2 != x5) x421000 x421001 x421002 x421003 bt422.2) else (laws_FnExactReplay.j1 k bt422.1 true x421000 x421001 x421002 x421003 bt422.2)) else (laws_FnExactReplay.j1 k bt422.1 true x421000 x421001 x421002 x421003 bt422.2)))) else (some false)))))
def laws_FnExactReplay.j1 : Nat → Int → Bool → Int → Int → Int → Int → List (S51) → Option (Bool)
 | 0, _, _, _, _, _, _, _ => none
 | k + 1, x9, x73, x421000, x421001, x421002, x421003, x421004 => if x73 = true then (some false) else ((laws_heldWal.f k x421000 x421001 x421002 x421003 x421004 1).bind fun t436 => (if t436 < 0 then (some false) else (if t436 = x9 then (some true) else (some false))))
end
def laws_FnExactReplay.f (k : Nat) (a0 : ByteArray) : Option (Bool) := if (a0.size : Int) > 1048576 then (some true) else ((spec_Replay.f k a0).bind fun bt401 => ((impl_Replay.f k a0).bind fun bt411 => ((laws_eqWal.f k bt411.1 bt411.2.1 bt411.2.2.1 bt411.2.2.2.1 bt411.2.2.2.2.1 bt401.1 bt401.2.1 bt401.2.2.1 bt401.2.2.2.1 bt401.2.2.2.2.1).bind fun t421 => (if t421 = true then (if bt411.2.2.2.2.2.1 = bt401.2.2.2.2.2.1 then (laws_FnExactReplay.j0 k a0 bt401.2.2.2.2.2.1 bt401.2.2.2.2.2.2 (bt411.2.2.2.2.2.2 != bt401.2.2.2.2.2.2) bt401.1 bt401.2.1 bt401.2.2.1 bt401.2.2.2.1 bt401.2.2.2.2.1 bt411.1 bt411.2.1 bt411.2.2.1 bt411.2.2.2.1 bt411.2.2.2.2.1) else (laws_FnExactReplay.j0 k a0 bt401.2.2.2.2.2.1 bt401.2.2.2.2.2.2 true bt401.1 bt401.2.1 bt401.2.2.1 bt401.2.2.2.1 bt401.2.2.2.2.1 bt411.1 bt411.2.1 bt411.2.2.1 bt411.2.2.2.1 bt411.2.2.2.2.1)) else (laws_FnExactReplay.j0 k a0 bt401.2.2.2.2.2.1 bt401.2.2.2.2.2.2 true bt401.1 bt401.2.1 bt401.2.2.1 bt401.2.2.2.1 bt401.2.2.2.2.1 bt411.1 bt411.2.1 bt411.2.2.1 bt411.2.2.2.1 bt411.2.2.2.2.1)))))
theorem laws_FnExactReplay.mono_l : ∀ k, (∀ y0 y1 y2 y3 y4 y5 y6 y7 y8 y9 y10 y11 y12 y13, LeO (laws_FnExactReplay.j0 k y0 y1 y2 y3 y4 y5 y6 y7 y8 y9 y10 y11 y12 y13) (laws_FnExactReplay.j0 (k + 1) y0 y1 y2 y3 y4 y5 y6 y7 y8 y9 y10 y11 y12 y13)) ∧ (∀ y0 y1 y2 y3 y4 y5 y6, LeO (laws_FnExactReplay.j1 k y0 y1 y2 y3 y4 y5 y6) (laws_FnExactReplay.j1 (k + 1) y0 y1 y2 y3 y4 y5 y6))
 | 0 => ⟨fun _ _ _ _ _ _ _ _ _ _ _ _ _ _ r h => by simp [laws_FnExactReplay.j0] at h, fun _ _ _ _ _ _ _ r h => by simp [laws_FnExactReplay.j1] at h⟩
 | k + 1 => by
  obtain ⟨ih0, ih1⟩ := laws_FnExactReplay.mono_l k
  refine ⟨?_, ?_⟩
  ·intro y0 y1 y2 y3 y4 y5 y6 y7 y8 y9 y10 y11 y12 y13
   unfold laws_FnExactReplay.j0
   repeat' first
   | (with_reducible exact ih0 _ _ _ _ _ _ _ _ _ _ _ _ _ _)
   | (with_reducible exact ih1 _ _ _ _ _ _ _)
   | (with_reducible exact impl_Replay.mono _ _)
   | (with_reducible exact laws_eqWal.mono _ _ _ _ _ _ _ _ _ _ _)
   | (with_reducible exact laws_heldWal.mono _ _ _ _ _ _ _)
   | (with_reducible exact laws_markWal.mono _ _ _ _ _ _ _)
   | (with_reducible exact spec_Replay.mono _ _)
   | (with_reducible exact LeO.refl _)
   | (with_reducible exact LeO.none _)
   | (with_reducible refine LeO.ite ?_ ?_)
   | (with_reducible refine LeO.bind ?_ (fun _ => ?_))
   | exact ih0 _ _ _ _ _ _ _ _ _ _ _ _ _ _
   | exact ih1 _ _ _ _ _ _ _
   | exact impl_Replay.mono _ _
   | exact laws_eqWal.mono _ _ _ _ _ _ _ _ _ _ _
   | exact laws_heldWal.mono _ _ _ _ _ _ _
   | exact laws_markWal.mono _ _ _ _ _ _ _
   | exact spec_Replay.mono _ _
   | exact LeO.none _
   | refine LeO.ite ?_ ?_
   | refine LeO.bind ?_ (fun _ => ?_)
  ·intro y0 y1 y2 y3 y4 y5 y6
   unfold laws_FnExactReplay.j1
   repeat' first
   | (with_reducible exact ih0 _ _ _ _ _ _ _ _ _ _ _ _ _ _)
   | (with_reducible exact ih1 _ _ _ _ _ _ _)
   | (with_reducible exact impl_Replay.mono _ _)
   | (with_reducible exact laws_eqWal.mono _ _ _ _ _ _ _ _ _ _ _)
   | (with_reducible exact laws_heldWal.mono _ _ _ _ _ _ _)
   | (with_reducible exact laws_markWal.mono _ _ _ _ _ _ _)
   | (with_reducible exact spec_Replay.mono _ _)
   | (with_reducible exact LeO.refl _)
   | (with_reducible exact LeO.none _)
   | (with_reducible refine LeO.ite ?_ ?_)
   | (with_reducible refine LeO.bind ?_ (fun _ => ?_))
   | exact ih0 _ _ _ _ _ _ _ _ _ _ _ _ _ _
   | exact ih1 _ _ _ _ _ _ _
   | exact impl_Replay.mono _ _
   | exact laws_eqWal.mono _ _ _ _ _ _ _ _ _ _ _
   | exact laws_heldWal.mono _ _ _ _ _ _ _
   | exact laws_markWal.mono _ _ _ _ _ _ _
   | exact spec_Replay.mono _ _
   | exact LeO.none _
   | refine LeO.ite ?_ ?_
   | refine LeO.bind ?_ (fun _ => ?_)
theorem laws_FnExactReplay.mono : ∀ a0 k, LeO (laws_FnExactReplay.f k a0) (laws_FnExactReplay.f (k + 1) a0) := by
 intro a0 k
 obtain ⟨ih0, ih1⟩ := laws_FnExactReplay.mono_l k
 unfold laws_FnExactReplay.f
 repeat' first
  | (with_reducible exact ih0 _ _ _ _ _ _ _ _ _ _ _ _ _ _)
  | (with_reducible exact ih1 _ _ _ _ _ _ _)
  | (with_reducible exact impl_Replay.mono _ _)
  | (with_reducible exact laws_eqWal.mono _ _ _ _ _ _ _ _ _ _ _)
  | (with_reducible exact laws_heldWal.mono _ _ _ _ _ _ _)
  | (with_reducible exact laws_markWal.mono _ _ _ _ _ _ _)
  | (with_reducible exact spec_Replay.mono _ _)
  | (with_reducible exact LeO.refl _)
  | (with_reducible exact LeO.none _)
  | (with_reducible refine LeO.ite ?_ ?_)
  | (with_reducible refine LeO.bind ?_ (fun _ => ?_))
  | exact ih0 _ _ _ _ _ _ _ _ _ _ _ _ _ _
  | exact ih1 _ _ _ _ _ _ _
  | exact impl_Replay.mono _ _
  | exact laws_eqWal.mono _ _ _ _ _ _ _ _ _ _ _
  | exact laws_heldWal.mono _ _ _ _ _ _ _
  | exact laws_markWal.mono _ _ _ _ _ _ _
  | exact spec_Replay.mono _ _
  | exact LeO.none _
  | refine LeO.ite ?_ ?_
  | refine LeO.bind ?_ (fun _ => ?_)
set_option maxHeartbeats 8000000 in
set_option maxRecDepth 100000 in
theorem laws_FnExactReplay.calls (k : Nat) (a0 : ByteArray) (r : Bool) (w : World) (h : laws_FnExactReplay.f k a0 = some r) (hr_ : r = true) :
 Calls Try.prog 3 #[.string a0] w fun e w' => e = .returned (.bool r) ∧ Below w.heap.size w w' := by
 have hu24 := Try.underlying24
 have HB := Aside0.mk (Below.refl w.heap.size w)
 have H : (if (a0.size : Int) > 1048576 then (some true) else ((spec_Replay.f k a0).bind fun bt401 => ((impl_Replay.f k a0).bind fun bt411 => ((laws_eqWal.f k bt411.1 bt411.2.1 bt411.2.2.1 bt411.2.2.2.1 bt411.2.2.2.2.1 bt401.1 bt401.2.1 bt401.2.2.1 bt401.2.2.2.1 bt401.2.2.2.2.1).bind fun t421 => (if t421 = true then (if bt411.2.2.2.2.2.1 = bt401.2.2.2.2.2.1 then (laws_FnExactReplay.j0 k a0 bt401.2.2.2.2.2.1 bt401.2.2.2.2.2.2 (bt411.2.2.2.2.2.2 != bt401.2.2.2.2.2.2) bt401.1 bt401.2.1 bt401.2.2.1 bt401.2.2.2.1 bt401.2.2.2.2.1 bt411.1 bt411.2.1 bt411.2.2.1 bt411.2.2.2.1 bt411.2.2.2.2.1) else (laws_FnExactReplay.j0 k a0 bt401.2.2.2.2.2.1 bt401.2.2.2.2.2.2 true bt401.1 bt401.2.1 bt401.2.2.1 bt401.2.2.2.1 bt401.2.2.2.2.1 bt411.1 bt411.2.1 bt411.2.2.1 bt411.2.2.2.1 bt411.2.2.2.2.1)) else (laws_FnExactReplay.j0 k a0 bt401.2.2.2.2.2.1 bt401.2.2.2.2.2.2 true bt401.1 bt401.2.1 bt401.2.2.1 bt401.2.2.2.1 bt401.2.2.2.2.1 bt411.1 bt411.2.1 bt411.2.2.1 bt411.2.2.2.1 bt411.2.2.2.2.1)))))) = some r := h
 clear h
 by_cases c2 : (a0.size : Int) > 1048576
 ·rw [if_pos c2] at H
  have c2b0 : decide (1048576 < (a0.size : Int)) = true := decide_eq_true c2
  have c2b1 : decide (1048576 < a0.size) = true := decide_eq_true (by omega)
  clear c2
  obtain rfl := Option.some.inj H
  go_enter Try.func3, Try.ntmps3
  go_wp2
  go_ret
  exact ⟨fe, bl⟩
 ·rw [if_neg c2] at H
  have c2b0 : decide (1048576 < (a0.size : Int)) = false := decide_eq_false c2
  have c2b1 : decide (1048576 < a0.size) = false := decide_eq_false (by omega)
  clear c2
  replace H := Option.bind_eq_some_iff.mp H
  obtain ⟨⟨t401, t402, t403, t404, t405, t408, t409⟩, A30, H⟩ := H
  replace H : ((impl_Replay.f k a0).bind fun bt411 => ((laws_eqWal.f k bt411.1 bt411.2.1 bt411.2.2.1 bt411.2.2.2.1 bt411.2.2.2.2.1 t401 t402 t403 t404 t405).bind fun t421 => (if t421 = true then (if bt411.2.2.2.2.2.1 = t408 then (laws_FnExactReplay.j0 k a0 t408 t409 (bt411.2.2.2.2.2.2 != t409) t401 t402 t403 t404 t405 bt411.1 bt411.2.1 bt411.2.2.1 bt411.2.2.2.1 bt411.2.2.2.2.1) else (laws_FnExactReplay.j0 k a0 t408 t409 true t401 t402 t403 t404 t405 bt411.1 bt411.2.1 bt411.2.2.1 bt411.2.2.2.1 bt411.2.2.2.2.1)) else (laws_FnExactReplay.j0 k a0 t408 t409 true t401 t402 t403 t404 t405 bt411.1 bt411.2.1 bt411.2.2.1 bt411.2.2.2.1 bt411.2.2.2.2.1)))) = some r := H
  have A3 := Aside0.mk A30
  clear A30
  replace H := Option.bind_eq_some_iff.mp H
  obtain ⟨⟨t411, t412, t413, t414, t415, t418, t419⟩, A40, H⟩ := H
  replace H : ((laws_eqWal.f k t411 t412 t413 t414 t415 t401 t402 t403 t404 t405).bind fun t421 => (if t421 = true then (if t418 = t408 then (laws_FnExactReplay.j0 k a0 t408 t409 (t419 != t409) t401 t402 t403 t404 t405 t411 t412 t413 t414 t415) else (laws_FnExactReplay.j0 k a0 t408 t409 true t401 t402 t403 t404 t405 t411 t412 t413 t414 t415)) else (laws_FnExactReplay.j0 k a0 t408 t409 true t401 t402 t403 t404 t405 t411 t412 t413 t414 t415))) = some r := H
  have A4 := Aside0.mk A40
  clear A40
  have HC5 := Aside0.mk H
  clear H
  go_enter Try.func3, Try.ntmps3
  go_upto_region 5 with (first | ((with_reducible refine gC 4 rfl ?_); refine goesZ (some 19) rfl Try.func4 #[.string a0] ?_; (with_reducible refine (spec_Replay.calls k a0 t401 t402 t403 t404 t405 t408 t409 _ A3.out).mono ?_); rintro e w6 ⟨v406, rfl, ho0, hb⟩; refine ⟨_, rfl, ?_⟩; have HO407 := Aside0.mk (Kd.R_lower ho0 (below_size bl)); replace HB := bs (w := w) hb; (try clear hb ho0)) | ((with_reducible refine gD 3 rfl ?_); refine boxZ 3 #[.int .i64 0, .int .i64 0, .int .i64 0, .int .i64 0, .slice none 0 0] 24 ?_; intro gb410 hg w7 hbox hb; replace HO407 := Aside0.mk (Kd.R_below (rpR HO407.out) hb); have BK410 := Aside0.mk hbox; have GW410 := gw (w := w) hg; have GE410 := gw (w := w) hg; replace HB := bs (w := w) hb; clear hb hbox hg; obtain ⟨Z8_0, Z8_1, Z8_2, Z8_3, Z8_4, Y8_0, Y8_1, Y8_2, Y8_3, Y8_4⟩ := cf5 BK410; obtain ⟨Ao9, co9, rfl⟩ := Kd.R_slice HO407.out) | ((with_reducible refine gC 5 rfl ?_); refine goesZ (some 25) rfl Try.func5 #[.string a0] ?_; (with_reducible refine (impl_Replay.calls k a0 t411 t412 t413 t414 t415 t418 t419 _ A4.out).mono ?_); rintro e w10 ⟨v416, rfl, ho0, hb⟩; refine ⟨_, rfl, ?_⟩; have HO417 := Aside0.mk (Kd.R_lower (Kd.R_new' ho0 (Kd.R_lt (rpR (Kd.R_mono (Kd.R_far (p := ⟨gb410, 4, none⟩) (Kd.R_far (p := ⟨gb410, 3, none⟩) (Kd.R_far (p := ⟨gb410, 2, none⟩) (Kd.R_far (p := ⟨gb410, 1, none⟩) (Kd.R_far (p := ⟨gb410, 0, none⟩) (Kd.R_types HO407.out BK410.out (by decide)) (fun _ hk => hk.2) (.int .i64 t401)) (fun _ hk => hk.2) (.int .i64 t402)) (fun _ hk => hk.2) (.int .i64 t403)) (fun _ hk => hk.2) (.int .i64 t404)) (fun _ hk => hk.2) (.slice Ao9 t405.length co9)) (fun _ h_ => h_.1))))) (below_size bl)); replace HO407 := Aside0.mk (Kd.R_elder' (rpR (Kd.R_mono (Kd.R_far (p := ⟨gb410, 4, none⟩) (Kd.R_far (p := ⟨gb410, 3, none⟩) (Kd.R_far (p := ⟨gb410, 2, none⟩) (Kd.R_far (p := ⟨gb410, 1, none⟩) (Kd.R_far (p := ⟨gb410, 0, none⟩) (Kd.R_types HO407.out BK410.out (by decide)) (fun _ hk => hk.2) (.int .i64 t401)) (fun _ hk => hk.2) (.int .i64 t402)) (fun _ hk => hk.2) (.int .i64 t403)) (fun _ hk => hk.2) (.int .i64 t404)) (fun _ hk => hk.2) (.slice Ao9 t405.length co9)) (fun _ h_ => h_.1))) (Kd.R_base ho0) hb); replace BK410 := Aside0.mk (blk_below (g := gb410) (o := .cells #[.int .i64 t401, .int .i64 t402, .int .i64 t403, .int .i64 t404, .slice Ao9 t405.length co9] 24 (0, 0)) bkk hb); replace HB := bs (w := w) hb; (try clear hb ho0)) | ((with_reducible refine gD 6 rfl ?_); refine boxZ 6 #[.int .i64 0, .int .i64 0, .int .i64 0, .int .i64 0, .slice none 0 0] 24 ?_; intro gb420 hg w11 hbox hb; replace HO407 := Aside0.mk (Kd.R_below (rpR HO407.out) hb); replace HO417 := Aside0.mk (Kd.R_below (rpR HO417.out) hb); have BK420 := Aside0.mk hbox; have GW420 := gw (w := w) hg; have GE420 := gw (w := w) hg; replace HB := bs (w := w) hb; have NB410_420 := nl BK410 hg; have NB420_410 := nr BK410 hg; replace BK410 := bv BK410 hb; clear hb hbox hg; have hnb12 := NB420_410.out; have hnc12 := NB410_420.out; obtain ⟨Z13_0, Z13_1, Z13_2, Z13_3, Z13_4, Y13_0, Y13_1, Y13_2, Y13_3, Y13_4⟩ := cf5 BK420; obtain ⟨Ao14, co14, rfl⟩ := Kd.R_slice HO417.out))
  (try simp only [Act.put, List.setIfInBounds_toArray, List.set_cons_zero, List.set_cons_succ])
  go_cut [42] (fun v42 wc => ∃ (kq : Nat) (x42_4 : Bool), v42 = .bool x42_4 ∧ Aside0 (laws_FnExactReplay.j0 kq a0 t408 t409 x42_4 t401 t402 t403 t404 t405 t411 t412 t413 t414 t415 = some r) ∧ Aside0 (kq ≤ k) ∧ Aside0 (Kd.R k51 51 wc w.heap.size (fun k_ => some k_ ≠ ((.slice Ao14 t415.length co14) : Value).ownBlock) (.slice Ao9 t405.length co9) t405) ∧ Aside0 (Kd.R k51 51 wc w.heap.size (fun k_ => some k_ ≠ ((.slice Ao9 t405.length co9) : Value).ownBlock) (.slice Ao14 t415.length co14) t415) ∧ Aside0 (wc.heap[gb410]? = some (.cells #[.int .i64 t401, .int .i64 t402, .int .i64 t403, .int .i64 t404, (.slice Ao9 t405.length co9)] 24 (0, 0))) ∧ Aside0 (wc.heap[gb420]? = some (.cells #[.int .i64 t411, .int .i64 t412, .int .i64 t413, .int .i64 t414, (.slice Ao14 t415.length co14)] 24 (0, 0))) ∧ Aside0 (Below w.heap.size w wc))
  case first =>
   have H := HC5.out
   clear HC5
   obtain ⟨t421, A15, H⟩ := bd H
   by_cases c16 : t421 = true
   ·subst c16
    replace H := iT H
    by_cases c17 : t418 = t408
    ·rw [if_pos c17] at H
     have c17b0 : (t418 == t408) = true := beq_iff_eq.mpr c17
     have c17b1 : (t418 != t408) = false := bne_eq_false_iff_eq.mpr c17
     clear c17
     (first | rw [c17b0] | (simp only [i64_w, i32_w]; rw [c17b0]) | skip)
     have H' := Aside0.mk H
     clear H
     have hnb18 := NB420_410.out
     have hnc18 := NB410_420.out
     obtain ⟨Z19_0, Z19_1, Z19_2, Z19_3, Z19_4, Y19_0, Y19_1, Y19_2, Y19_3, Y19_4⟩ := cf5 BK420; obtain ⟨Z20_0, Z20_1, Z20_2, Z20_3, Z20_4, Y20_0, Y20_1, Y20_2, Y20_3, Y20_4⟩ := cf5 BK410
     go_wp2_with (first | ((with_reducible refine gC 6 rfl ?_); refine goesZ (some 31) rfl Try.func6 #[.agg #[.int .i64 t411, .int .i64 t412, .int .i64 t413, .int .i64 t414, .slice Ao14 t415.length co14], .agg #[.int .i64 t401, .int .i64 t402, .int .i64 t403, .int .i64 t404, .slice Ao9 t405.length co9]] ?_; (with_reducible refine (laws_eqWal.calls k t411 t412 t413 t414 _ _ t415 t401 t402 t403 t404 _ _ t405 true _ ?side1 ?side2 ?side3 ?side4 A15.out).mono ?_); (case side1 => refine (Kd.R_reads' (e := 51) (base := w.heap.size) (ok := fun k_ => (True ∧ some k_ ≠ (.slice Ao9 t405.length co9 : Value).ownBlock)) (n := t415.length) (c := co14) ?_).2.2; exact (rpR (Kd.R_mono (Kd.R_far (p := ⟨gb420, 4, none⟩) (Kd.R_far (p := ⟨gb420, 3, none⟩) (Kd.R_far (p := ⟨gb420, 2, none⟩) (Kd.R_far (p := ⟨gb420, 1, none⟩) (Kd.R_far (p := ⟨gb420, 0, none⟩) (Kd.R_types HO417.out BK420.out (by decide)) (fun _ hk => hk.2) (.int .i64 t411)) (fun _ hk => hk.2) (.int .i64 t412)) (fun _ hk => hk.2) (.int .i64 t413)) (fun _ hk => hk.2) (.int .i64 t414)) (fun _ hk => hk.2) (.slice Ao14 t415.length co14)) (fun _ h_ => h_.1)))); (case side2 => exact (Kd.R_reads' HO417.out).2.1); (case side3 => refine (Kd.R_reads' (e := 51) (base := w.heap.size) (ok := fun k_ => (True ∧ some k_ ≠ (.slice Ao14 t415.length co14 : Value).ownBlock)) (n := t405.length) (c := co9) ?_).2.2; exact (rpR (Kd.R_mono (Kd.R_far (p := ⟨gb420, 4, none⟩) (Kd.R_far (p := ⟨gb420, 3, none⟩) (Kd.R_far (p := ⟨gb420, 2, none⟩) (Kd.R_far (p := ⟨gb420, 1, none⟩) (Kd.R_far (p := ⟨gb420, 0, none⟩) (Kd.R_types HO407.out BK420.out (by decide)) (fun _ hk => hk.2) (.int .i64 t411)) (fun _ hk => hk.2) (.int .i64 t412)) (fun _ hk => hk.2) (.int .i64 t413)) (fun _ hk => hk.2) (.int .i64 t414)) (fun _ hk => hk.2) (.slice Ao14 t415.length co14)) (fun _ h_ => h_.1)))); (case side4 => exact (Kd.R_reads' HO407.out).2.1); rintro e w21 ⟨rfl, hb⟩; refine ⟨_, rfl, ?_⟩; replace HO407 := Aside0.mk (Kd.R_below (rpR (Kd.R_mono (Kd.R_far (p := ⟨gb420, 4, none⟩) (Kd.R_far (p := ⟨gb420, 3, none⟩) (Kd.R_far (p := ⟨gb420, 2, none⟩) (Kd.R_far (p := ⟨gb420, 1, none⟩) (Kd.R_far (p := ⟨gb420, 0, none⟩) (Kd.R_types HO407.out BK420.out (by decide)) (fun _ hk => hk.2) (.int .i64 t411)) (fun _ hk => hk.2) (.int .i64 t412)) (fun _ hk => hk.2) (.int .i64 t413)) (fun _ hk => hk.2) (.int .i64 t414)) (fun _ hk => hk.2) (.slice Ao14 t415.length co14)) (fun _ h_ => h_.1))) hb); replace HO417 := Aside0.mk (Kd.R_below (rpR (Kd.R_mono (Kd.R_far (p := ⟨gb420, 4, none⟩) (Kd.R_far (p := ⟨gb420, 3, none⟩) (Kd.R_far (p := ⟨gb420, 2, none⟩) (Kd.R_far (p := ⟨gb420, 1, none⟩) (Kd.R_far (p := ⟨gb420, 0, none⟩) (Kd.R_types HO417.out BK420.out (by decide)) (fun _ hk => hk.2) (.int .i64 t411)) (fun _ hk => hk.2) (.int .i64 t412)) (fun _ hk => hk.2) (.int .i64 t413)) (fun _ hk => hk.2) (.int .i64 t414)) (fun _ hk => hk.2) (.slice Ao14 t415.length co14)) (fun _ h_ => h_.1))) hb); replace BK410 := Aside0.mk (blk_below (g := gb410) (o := .cells #[.int .i64 t401, .int .i64 t402, .int .i64 t403, .int .i64 t404, .slice Ao9 t405.length co9] 24 (0, 0)) bkk hb); replace BK420 := Aside0.mk (blk_below (g := gb420) (o := .cells #[.int .i64 t411, .int .i64 t412, .int .i64 t413, .int .i64 t414, .slice Ao14 t415.length co14] 24 (0, 0)) bkk hb); replace HB := bs (w := w) hb; (try clear hb)))
     go_meet
     case rel => exact ⟨_, ((t419 != t409)), fa, H', ⟨by first | omega | exact Nat.le_refl _⟩, ⟨rpR (Kd.R_mono HO407.out (fun _ hk => hk.2))⟩, ⟨rpR (Kd.R_mono HO417.out (fun _ hk => hk.2))⟩, ⟨by (with_reducible repeat (first | refine blk_drewN ?_ _ | refine blk_drew ?_ | refine blk_alloc ?_ _)); exact BK410.out⟩, ⟨by (with_reducible repeat (first | refine blk_drewN ?_ _ | refine blk_drew ?_ | refine blk_alloc ?_ _)); exact BK420.out⟩, ⟨bl⟩⟩
    ·rw [if_neg c17] at H
     have c17b0 : (t418 == t408) = false := beq_eq_false_iff_ne.mpr c17
     have c17b1 : (t418 != t408) = true := bne_iff_ne.mpr c17
     (first | rw [c17b0] | (simp only [i64_w, i32_w]; rw [c17b0]) | skip)
     have H' := Aside0.mk H
     clear H
     have hnb22 := NB420_410.out
     have hnc22 := NB410_420.out
     obtain ⟨Z23_0, Z23_1, Z23_2, Z23_3, Z23_4, Y23_0, Y23_1, Y23_2, Y23_3, Y23_4⟩ := cf5 BK420; obtain ⟨Z24_0, Z24_1, Z24_2, Z24_3, Z24_4, Y24_0, Y24_1, Y24_2, Y24_3, Y24_4⟩ := cf5 BK410
     go_wp2_with (first | ((with_reducible refine gC 6 rfl ?_); refine goesZ (some 31) rfl Try.func6 #[.agg #[.int .i64 t411, .int .i64 t412, .int .i64 t413, .int .i64 t414, .slice Ao14 t415.length co14], .agg #[.int .i64 t401, .int .i64 t402, .int .i64 t403, .int .i64 t404, .slice Ao9 t405.length co9]] ?_; (with_reducible refine (laws_eqWal.calls k t411 t412 t413 t414 _ _ t415 t401 t402 t403 t404 _ _ t405 true _ ?side1 ?side2 ?side3 ?side4 A15.out).mono ?_); (case side1 => refine (Kd.R_reads' (e := 51) (base := w.heap.size) (ok := fun k_ => (True ∧ some k_ ≠ (.slice Ao9 t405.length co9 : Value).ownBlock)) (n := t415.length) (c := co14) ?_).2.2; exact (rpR (Kd.R_mono (Kd.R_far (p := ⟨gb420, 4, none⟩) (Kd.R_far (p := ⟨gb420, 3, none⟩) (Kd.R_far (p := ⟨gb420, 2, none⟩) (Kd.R_far (p := ⟨gb420, 1, none⟩) (Kd.R_far (p := ⟨gb420, 0, none⟩) (Kd.R_types HO417.out BK420.out (by decide)) (fun _ hk => hk.2) (.int .i64 t411)) (fun _ hk => hk.2) (.int .i64 t412)) (fun _ hk => hk.2) (.int .i64 t413)) (fun _ hk => hk.2) (.int .i64 t414)) (fun _ hk => hk.2) (.slice Ao14 t415.length co14)) (fun _ h_ => h_.1)))); (case side2 => exact (Kd.R_reads' HO417.out).2.1); (case side3 => refine (Kd.R_reads' (e := 51) (base := w.heap.size) (ok := fun k_ => (True ∧ some k_ ≠ (.slice Ao14 t415.length co14 : Value).ownBlock)) (n := t405.length) (c := co9) ?_).2.2; exact (rpR (Kd.R_mono (Kd.R_far (p := ⟨gb420, 4, none⟩) (Kd.R_far (p := ⟨gb420, 3, none⟩) (Kd.R_far (p := ⟨gb420, 2, none⟩) (Kd.R_far (p := ⟨gb420, 1, none⟩) (Kd.R_far (p := ⟨gb420, 0, none⟩) (Kd.R_types HO407.out BK420.out (by decide)) (fun _ hk => hk.2) (.int .i64 t411)) (fun _ hk => hk.2) (.int .i64 t412)) (fun _ hk => hk.2) (.int .i64 t413)) (fun _ hk => hk.2) (.int .i64 t414)) (fun _ hk => hk.2) (.slice Ao14 t415.length co14)) (fun _ h_ => h_.1)))); (case side4 => exact (Kd.R_reads' HO407.out).2.1); rintro e w25 ⟨rfl, hb⟩; refine ⟨_, rfl, ?_⟩; replace HO407 := Aside0.mk (Kd.R_below (rpR (Kd.R_mono (Kd.R_far (p := ⟨gb420, 4, none⟩) (Kd.R_far (p := ⟨gb420, 3, none⟩) (Kd.R_far (p := ⟨gb420, 2, none⟩) (Kd.R_far (p := ⟨gb420, 1, none⟩) (Kd.R_far (p := ⟨gb420, 0, none⟩) (Kd.R_types HO407.out BK420.out (by decide)) (fun _ hk => hk.2) (.int .i64 t411)) (fun _ hk => hk.2) (.int .i64 t412)) (fun _ hk => hk.2) (.int .i64 t413)) (fun _ hk => hk.2) (.int .i64 t414)) (fun _ hk => hk.2) (.slice Ao14 t415.length co14)) (fun _ h_ => h_.1))) hb); replace HO417 := Aside0.mk (Kd.R_below (rpR (Kd.R_mono (Kd.R_far (p := ⟨gb420, 4, none⟩) (Kd.R_far (p := ⟨gb420, 3, none⟩) (Kd.R_far (p := ⟨gb420, 2, none⟩) (Kd.R_far (p := ⟨gb420, 1, none⟩) (Kd.R_far (p := ⟨gb420, 0, none⟩) (Kd.R_types HO417.out BK420.out (by decide)) (fun _ hk => hk.2) (.int .i64 t411)) (fun _ hk => hk.2) (.int .i64 t412)) (fun _ hk => hk.2) (.int .i64 t413)) (fun _ hk => hk.2) (.int .i64 t414)) (fun _ hk => hk.2) (.slice Ao14 t415.length co14)) (fun _ h_ => h_.1))) hb); replace BK410 := Aside0.mk (blk_below (g := gb410) (o := .cells #[.int .i64 t401, .int .i64 t402, .int .i64 t403, .int .i64 t404, .slice Ao9 t405.length co9] 24 (0, 0)) bkk hb); replace BK420 := Aside0.mk (blk_below (g := gb420) (o := .cells #[.int .i64 t411, .int .i64 t412, .int .i64 t413, .int .i64 t414, .slice Ao14 t415.length co14] 24 (0, 0)) bkk hb); replace HB := bs (w := w) hb; (try clear hb)))
     go_meet
     case rel => exact ⟨_, (true), fa, H', ⟨by first | omega | exact Nat.le_refl _⟩, ⟨rpR (Kd.R_mono HO407.out (fun _ hk => hk.2))⟩, ⟨rpR (Kd.R_mono HO417.out (fun _ hk => hk.2))⟩, ⟨by (with_reducible repeat (first | refine blk_drewN ?_ _ | refine blk_drew ?_ | refine blk_alloc ?_ _)); exact BK410.out⟩, ⟨by (with_reducible repeat (first | refine blk_drewN ?_ _ | refine blk_drew ?_ | refine blk_alloc ?_ _)); exact BK420.out⟩, ⟨bl⟩⟩
   ·replace c16 := Bool.eq_false_iff.mpr c16
    subst c16
    replace H := iF H
    have H' := Aside0.mk H
    clear H
    have hnb26 := NB420_410.out
    have hnc26 := NB410_420.out
    obtain ⟨Z27_0, Z27_1, Z27_2, Z27_3, Z27_4, Y27_0, Y27_1, Y27_2, Y27_3, Y27_4⟩ := cf5 BK420; obtain ⟨Z28_0, Z28_1, Z28_2, Z28_3, Z28_4, Y28_0, Y28_1, Y28_2, Y28_3, Y28_4⟩ := cf5 BK410
    go_wp2_with (first | ((with_reducible refine gC 6 rfl ?_); refine goesZ (some 31) rfl Try.func6 #[.agg #[.int .i64 t411, .int .i64 t412, .int .i64 t413, .int .i64 t414, .slice Ao14 t415.length co14], .agg #[.int .i64 t401, .int .i64 t402, .int .i64 t403, .int .i64 t404, .slice Ao9 t405.length co9]] ?_; (with_reducible refine (laws_eqWal.calls k t411 t412 t413 t414 _ _ t415 t401 t402 t403 t404 _ _ t405 false _ ?side1 ?side2 ?side3 ?side4 A15.out).mono ?_); (case side1 => refine (Kd.R_reads' (e := 51) (base := w.heap.size) (ok := fun k_ => (True ∧ some k_ ≠ (.slice Ao9 t405.length co9 : Value).ownBlock)) (n := t415.length) (c := co14) ?_).2.2; exact (rpR (Kd.R_mono (Kd.R_far (p := ⟨gb420, 4, none⟩) (Kd.R_far (p := ⟨gb420, 3, none⟩) (Kd.R_far (p := ⟨gb420, 2, none⟩) (Kd.R_far (p := ⟨gb420, 1, none⟩) (Kd.R_far (p := ⟨gb420, 0, none⟩) (Kd.R_types HO417.out BK420.out (by decide)) (fun _ hk => hk.2) (.int .i64 t411)) (fun _ hk => hk.2) (.int .i64 t412)) (fun _ hk => hk.2) (.int .i64 t413)) (fun _ hk => hk.2) (.int .i64 t414)) (fun _ hk => hk.2) (.slice Ao14 t415.length co14)) (fun _ h_ => h_.1)))); (case side2 => exact (Kd.R_reads' HO417.out).2.1); (case side3 => refine (Kd.R_reads' (e := 51) (base := w.heap.size) (ok := fun k_ => (True ∧ some k_ ≠ (.slice Ao14 t415.length co14 : Value).ownBlock)) (n := t405.length) (c := co9) ?_).2.2; exact (rpR (Kd.R_mono (Kd.R_far (p := ⟨gb420, 4, none⟩) (Kd.R_far (p := ⟨gb420, 3, none⟩) (Kd.R_far (p := ⟨gb420, 2, none⟩) (Kd.R_far (p := ⟨gb420, 1, none⟩) (Kd.R_far (p := ⟨gb420, 0, none⟩) (Kd.R_types HO407.out BK420.out (by decide)) (fun _ hk => hk.2) (.int .i64 t411)) (fun _ hk => hk.2) (.int .i64 t412)) (fun _ hk => hk.2) (.int .i64 t413)) (fun _ hk => hk.2) (.int .i64 t414)) (fun _ hk => hk.2) (.slice Ao14 t415.length co14)) (fun _ h_ => h_.1)))); (case side4 => exact (Kd.R_reads' HO407.out).2.1); rintro e w29 ⟨rfl, hb⟩; refine ⟨_, rfl, ?_⟩; replace HO407 := Aside0.mk (Kd.R_below (rpR (Kd.R_mono (Kd.R_far (p := ⟨gb420, 4, none⟩) (Kd.R_far (p := ⟨gb420, 3, none⟩) (Kd.R_far (p := ⟨gb420, 2, none⟩) (Kd.R_far (p := ⟨gb420, 1, none⟩) (Kd.R_far (p := ⟨gb420, 0, none⟩) (Kd.R_types HO407.out BK420.out (by decide)) (fun _ hk => hk.2) (.int .i64 t411)) (fun _ hk => hk.2) (.int .i64 t412)) (fun _ hk => hk.2) (.int .i64 t413)) (fun _ hk => hk.2) (.int .i64 t414)) (fun _ hk => hk.2) (.slice Ao14 t415.length co14)) (fun _ h_ => h_.1))) hb); replace HO417 := Aside0.mk (Kd.R_below (rpR (Kd.R_mono (Kd.R_far (p := ⟨gb420, 4, none⟩) (Kd.R_far (p := ⟨gb420, 3, none⟩) (Kd.R_far (p := ⟨gb420, 2, none⟩) (Kd.R_far (p := ⟨gb420, 1, none⟩) (Kd.R_far (p := ⟨gb420, 0, none⟩) (Kd.R_types HO417.out BK420.out (by decide)) (fun _ hk => hk.2) (.int .i64 t411)) (fun _ hk => hk.2) (.int .i64 t412)) (fun _ hk => hk.2) (.int .i64 t413)) (fun _ hk => hk.2) (.int .i64 t414)) (fun _ hk => hk.2) (.slice Ao14 t415.length co14)) (fun _ h_ => h_.1))) hb); replace BK410 := Aside0.mk (blk_below (g := gb410) (o := .cells #[.int .i64 t401, .int .i64 t402, .int .i64 t403, .int .i64 t404, .slice Ao9 t405.length co9] 24 (0, 0)) bkk hb); replace BK420 := Aside0.mk (blk_below (g := gb420) (o := .cells #[.int .i64 t411, .int .i64 t412, .int .i64 t413, .int .i64 t414, .slice Ao14 t415.length co14] 24 (0, 0)) bkk hb); replace HB := bs (w := w) hb; (try clear hb)))
    go_meet
    case rel => exact ⟨_, (true), fa, H', ⟨by first | omega | exact Nat.le_refl _⟩, ⟨rpR (Kd.R_mono HO407.out (fun _ hk => hk.2))⟩, ⟨rpR (Kd.R_mono HO417.out (fun _ hk => hk.2))⟩, ⟨by (with_reducible repeat (first | refine blk_drewN ?_ _ | refine blk_drew ?_ | refine blk_alloc ?_ _)); exact BK410.out⟩, ⟨by (with_reducible repeat (first | refine blk_drewN ?_ _ | refine blk_drew ?_ | refine blk_alloc ?_ _)); exact BK420.out⟩, ⟨bl⟩⟩
  case rest =>
   clear HC5
   try clear c1
   try clear c2
   try clear c2b0
   try clear c2b1
   try clear p2
   try clear c3
   try clear c4
   try clear c5
   try clear c6
   try clear c12
   try clear c16
   try clear c17
   try clear c17b0
   try clear c17b1
   try clear c18
   try clear c22
   try clear c26
   try clear Z13_0 Z13_1 Z13_2 Z13_3 Z13_4
   try clear Z19_0 Z19_1 Z19_2 Z19_3 Z19_4
   try clear Z20_0 Z20_1 Z20_2 Z20_3 Z20_4
   try clear Z23_0 Z23_1 Z23_2 Z23_3 Z23_4
   try clear Z24_0 Z24_1 Z24_2 Z24_3 Z24_4
   try clear Z27_0 Z27_1 Z27_2 Z27_3 Z27_4
   try clear Z28_0 Z28_1 Z28_2 Z28_3 Z28_4
   try clear Z8_0 Z8_1 Z8_2 Z8_3 Z8_4
   try clear Y13_0 Y13_1 Y13_2 Y13_3 Y13_4
   try clear Y19_0 Y19_1 Y19_2 Y19_3 Y19_4
   try clear Y20_0 Y20_1 Y20_2 Y20_3 Y20_4
   try clear Y23_0 Y23_1 Y23_2 Y23_3 Y23_4
   try clear Y24_0 Y24_1 Y24_2 Y24_3 Y24_4
   try clear Y27_0 Y27_1 Y27_2 Y27_3 Y27_4
   try clear Y28_0 Y28_1 Y28_2 Y28_3 Y28_4
   try clear Y8_0 Y8_1 Y8_2 Y8_3 Y8_4
   obtain ⟨kq, x42_4, rfl, HA, HJ4, HO_411004, HO_421004, BK410, BK420, HB⟩ := hcut
   cases kq with
   | zero => exact absurd HA.out (by simp [laws_FnExactReplay.j0])
   | succ kj4 =>
    have H := HA.out
    clear HA
    simp only [laws_FnExactReplay.j0] at H
    by_cases c30 : x42_4 = true
    ·subst c30
     replace H := iT H
     exact absurd ((Option.some.inj H).trans hr_) (by decide)
    ·replace c30 := Bool.eq_false_iff.mpr c30
     subst c30
     replace H := iF H
     replace H := Option.bind_eq_some_iff.mp H
     obtain ⟨⟨t422, t423⟩, A310, H⟩ := H
     replace H : ((laws_heldWal.f kj4 t411 t412 t413 t414 t423 1).bind fun t424 => (if t424 < 0 then (some false) else (if t424 = t422 then ((impl_Replay.f kj4 a0).bind fun bt425 => ((laws_eqWal.f kj4 bt425.1 bt425.2.1 bt425.2.2.1 bt425.2.2.2.1 bt425.2.2.2.2.1 t401 t402 t403 t404 t405).bind fun t435 => (if t435 = true then (if bt425.2.2.2.2.2.1 = t408 then (laws_FnExactReplay.j1 kj4 t422 (bt425.2.2.2.2.2.2 != t409) t411 t412 t413 t414 t423) else (laws_FnExactReplay.j1 kj4 t422 true t411 t412 t413 t414 t423)) else (laws_FnExactReplay.j1 kj4 t422 true t411 t412 t413 t414 t423)))) else (some false)))) = some r := H
     have A31 := Aside0.mk A310
     clear A310
     obtain ⟨t424, A32, H⟩ := bd H
     by_cases c33 : t424 < 0
     ·rw [if_pos c33] at H
      have c33b0 : decide (t424 < 0) = true := decide_eq_true c33
      clear c33
      exact absurd ((Option.some.inj H).trans hr_) (by decide)
     ·rw [if_neg c33] at H
      have c33b0 : decide (t424 < 0) = false := decide_eq_false c33
      clear c33
      by_cases c34 : t424 = t422
      ·rw [if_pos c34] at H
       have c34b0 : (t424 == t422) = true := beq_iff_eq.mpr c34
       have c34b1 : (t424 != t422) = false := bne_eq_false_iff_eq.mpr c34
       clear c34
       replace H := Option.bind_eq_some_iff.mp H
       obtain ⟨⟨t425, t426, t427, t428, t429, t432, t433⟩, A350, H⟩ := H
       replace H : ((laws_eqWal.f kj4 t425 t426 t427 t428 t429 t401 t402 t403 t404 t405).bind fun t435 => (if t435 = true then (if t432 = t408 then (laws_FnExactReplay.j1 kj4 t422 (t433 != t409) t411 t412 t413 t414 t423) else (laws_FnExactReplay.j1 kj4 t422 true t411 t412 t413 t414 t423)) else (laws_FnExactReplay.j1 kj4 t422 true t411 t412 t413 t414 t423))) = some r := H
       have A35 := Aside0.mk A350
       clear A350
       have HC36 := Aside0.mk H
       clear H
       have hnb37 := NB420_410.out
       have hnc37 := NB410_420.out
       obtain ⟨Z38_0, Z38_1, Z38_2, Z38_3, Z38_4, Y38_0, Y38_1, Y38_2, Y38_3, Y38_4⟩ := cf5 BK420
       go_upto_region 16 with (first | ((with_reducible refine gC 7 rfl ?_); refine goesZ (some 45) rfl Try.func7 #[.agg #[.int .i64 t411, .int .i64 t412, .int .i64 t413, .int .i64 t414, .slice Ao14 t415.length co14], .int .i64 1] ?_; (with_reducible refine (laws_markWal.calls kj4 t411 t412 t413 t414 (fun k_ => some k_ = (.slice Ao14 t415.length co14 : Value).ownBlock) (.slice Ao14 t415.length co14) t415 1 t422 t423 w _ ?side1 ?side2 A31.out).mono ?_); (case side1 => repeat (first | (with_reducible first | exact HB.out | apply below_alloc | apply pw_below_drewN | apply below_drew1 | refine below_set ?_ GE410.out | refine below_set ?_ GE420.out) | exact HB.out)); (case side2 => exact Kd.R_tight rfl HO_421004.out); rintro e w39 ⟨rfl, hy0, hb, hkp⟩; refine ⟨_, rfl, ?_⟩; replace HO_411004 := Aside0.mk (Kd.R_mono (ok' := fun k_ => some k_ ≠ (.slice Ao14 t415.length co14 : Value).ownBlock) (Kd.R_keptB (HO_411004.out) hkp (fun k_ hk_ hs_ => (hk_) hs_)) (fun k_ hk_ => hk_.1)); replace BK410 := Aside0.mk (blk_kept bk hkp (fun hs_ => (fun e_ => (Kd.R_ne HO_421004.out BK410.out (by decide)) e_) hs_)); replace BK420 := Aside0.mk (blk_kept bk hkp (fun hs_ => (fun e_ => (Kd.R_ne HO_421004.out BK420.out (by decide)) e_) hs_)); replace HO_421004 := Aside0.mk (Kd.R_reok rfl hy0 (fun k_ e_ => HO_421004.out.1 k_ e_)); replace HB := Aside0.mk (hb); (try clear hb hkp hy0); obtain ⟨Z40_0, Z40_1, Z40_2, Z40_3, Z40_4, Y40_0, Y40_1, Y40_2, Y40_3, Y40_4⟩ := cf5 BK420) | ((with_reducible refine gC 8 rfl ?_); refine goesL_ (some 48) rfl rfl Try.func8 (by kernel_rfl) rfl #[.agg #[.int .i64 t411, .int .i64 t412, .int .i64 t413, .int .i64 t414, .slice Ao14 t423.length co14], .int .i64 1] rfl (by (try simp only [List.map_toArray, List.map_cons, List.map_nil]); first | done | (rw [show t423.length = t415.length from (Kd.R_reads' HO_421004.out).1.symm] <;> rfl) | rfl | (simp only [List.length_drop, List.length_take]; rfl)) ?_; (with_reducible refine (laws_heldWal.calls kj4 t411 t412 t413 t414 _ _ t423 1 t424 _ ?side1 ?side2 A32.out).mono ?_); (case side1 => exact ca ((Kd.R_reads' HO_421004.out).2.2)); (case side2 => rw [show t423.length = t415.length from (Kd.R_reads' HO_421004.out).1.symm]; exact (Kd.R_reads' HO_421004.out).2.1); rintro e w41 ⟨rfl, hb⟩; refine ⟨_, rfl, ?_⟩; replace HO_411004 := Aside0.mk (Kd.R_below (rpR HO_411004.out) hb); replace HO_421004 := Aside0.mk (Kd.R_below (rpR HO_421004.out) hb); replace BK410 := bv BK410 hb; replace BK420 := bv BK420 hb; replace HB := bs (w := w) hb; (try clear hb)) | ((with_reducible refine gC 5 rfl ?_); refine goesZ (some 56) rfl Try.func5 #[.string a0] ?_; (with_reducible refine (impl_Replay.calls kj4 a0 t425 t426 t427 t428 t429 t432 t433 _ A35.out).mono ?_); rintro e w42 ⟨v430, rfl, ho0, hb⟩; refine ⟨_, rfl, ?_⟩; have HO431 := Aside0.mk (Kd.R_lower (Kd.R_new' (Kd.R_new' ho0 (Kd.R_lt (rpR HO_411004.out))) (Kd.R_lt (rpR HO_421004.out))) (below_size bl)); replace HO_411004 := Aside0.mk (Kd.R_elder' (rpR HO_411004.out) (Kd.R_base ho0) hb); replace HO_421004 := Aside0.mk (Kd.R_elder' (rpR HO_421004.out) (Kd.R_base ho0) hb); replace BK410 := bv BK410 hb; replace BK420 := bv BK420 hb; replace HB := bs (w := w) hb; (try clear hb ho0)) | ((with_reducible refine gD 11 rfl ?_); refine boxZ 11 #[.int .i64 0, .int .i64 0, .int .i64 0, .int .i64 0, .slice none 0 0] 24 ?_; intro gb434 hg w43 hbox hb; replace HO_411004 := Aside0.mk (Kd.R_below (rpR HO_411004.out) hb); replace HO_421004 := Aside0.mk (Kd.R_below (rpR HO_421004.out) hb); replace HO431 := Aside0.mk (Kd.R_below (rpR HO431.out) hb); have BK434 := Aside0.mk hbox; have GW434 := gw (w := w) hg; have GE434 := gw (w := w) hg; replace HB := bs (w := w) hb; have NB410_434 := nl BK410 hg; have NB434_410 := nr BK410 hg; replace BK410 := bv BK410 hb; have NB420_434 := nl BK420 hg; have NB434_420 := nr BK420 hg; replace BK420 := bv BK420 hb; clear hb hbox hg; have hnb44 := NB434_410.out; have hnc44 := NB410_434.out; have hnb45 := NB434_420.out; have hnc45 := NB420_434.out; obtain ⟨Z46_0, Z46_1, Z46_2, Z46_3, Z46_4, Y46_0, Y46_1, Y46_2, Y46_3, Y46_4⟩ := cf5 BK434; obtain ⟨Ao47, co47, rfl⟩ := Kd.R_slice HO431.out))
       (try simp only [Act.put, List.setIfInBounds_toArray, List.set_cons_zero, List.set_cons_succ])
       go_cut [73] (fun v73 wc => ∃ (kq : Nat) (x73_35 : Bool), v73 = .bool x73_35 ∧ Aside0 (laws_FnExactReplay.j1 kq t422 x73_35 t411 t412 t413 t414 t423 = some r) ∧ Aside0 (kq ≤ kj4) ∧ Aside0 (Kd.R k51 51 wc w.heap.size (fun k_ => some k_ ≠ ((.slice Ao14 t415.length co14) : Value).ownBlock ∧ some k_ ≠ ((.slice Ao47 t429.length co47) : Value).ownBlock) (.slice Ao9 t405.length co9) t405) ∧ Aside0 (Kd.R k51 51 wc w.heap.size (fun k_ => some k_ ≠ ((.slice Ao9 t405.length co9) : Value).ownBlock ∧ some k_ ≠ ((.slice Ao47 t429.length co47) : Value).ownBlock) (.slice Ao14 t415.length co14) t423) ∧ Aside0 (Kd.R k51 51 wc w.heap.size (fun k_ => some k_ ≠ ((.slice Ao9 t405.length co9) : Value).ownBlock ∧ some k_ ≠ ((.slice Ao14 t415.length co14) : Value).ownBlock) (.slice Ao47 t429.length co47) t429) ∧ Aside0 (wc.heap[gb410]? = some (.cells #[.int .i64 t401, .int .i64 t402, .int .i64 t403, .int .i64 t404, (.slice Ao9 t405.length co9)] 24 (0, 0))) ∧ Aside0 (wc.heap[gb420]? = some (.cells #[.int .i64 t411, .int .i64 t412, .int .i64 t413, .int .i64 t414, (.slice Ao14 t415.length co14)] 24 (0, 0))) ∧ Aside0 (wc.heap[gb434]? = some (.cells #[.int .i64 t425, .int .i64 t426, .int .i64 t427, .int .i64 t428, (.slice Ao47 t429.length co47)] 24 (0, 0))) ∧ Aside0 (Below w.heap.size w wc))
       case first =>
        have H := HC36.out
        clear HC36
        obtain ⟨t435, A48, H⟩ := bd H
        by_cases c49 : t435 = true
        ·subst c49
         replace H := iT H
         by_cases c50 : t432 = t408
         ·rw [if_pos c50] at H
          have c50b0 : (t432 == t408) = true := beq_iff_eq.mpr c50
          have c50b1 : (t432 != t408) = false := bne_eq_false_iff_eq.mpr c50
          clear c50
          (first | rw [c50b0] | (simp only [i64_w, i32_w]; rw [c50b0]) | skip)
          have H' := Aside0.mk H
          clear H
          have hnb51 := NB434_410.out
          have hnc51 := NB410_434.out
          have hnb52 := NB434_420.out
          have hnc52 := NB420_434.out
          obtain ⟨Z53_0, Z53_1, Z53_2, Z53_3, Z53_4, Y53_0, Y53_1, Y53_2, Y53_3, Y53_4⟩ := cf5 BK434
          have hnb54 := NB410_420.out
          have hnc54 := NB420_410.out
          obtain ⟨Z55_0, Z55_1, Z55_2, Z55_3, Z55_4, Y55_0, Y55_1, Y55_2, Y55_3, Y55_4⟩ := cf5 BK410
          go_wp2_with (first | ((with_reducible refine gC 6 rfl ?_); refine goesZ (some 62) rfl Try.func6 #[.agg #[.int .i64 t425, .int .i64 t426, .int .i64 t427, .int .i64 t428, .slice Ao47 t429.length co47], .agg #[.int .i64 t401, .int .i64 t402, .int .i64 t403, .int .i64 t404, .slice Ao9 t405.length co9]] ?_; (with_reducible refine (laws_eqWal.calls kj4 t425 t426 t427 t428 _ _ t429 t401 t402 t403 t404 _ _ t405 true _ ?side1 ?side2 ?side3 ?side4 A48.out).mono ?_); (case side1 => refine (Kd.R_reads' (e := 51) (base := w.heap.size) (ok := fun k_ => ((True ∧ some k_ ≠ (.slice Ao9 t405.length co9 : Value).ownBlock) ∧ some k_ ≠ (.slice Ao14 t415.length co14 : Value).ownBlock)) (n := t429.length) (c := co47) ?_).2.2; exact (rpR (Kd.R_mono (Kd.R_far (p := ⟨gb434, 4, none⟩) (Kd.R_far (p := ⟨gb434, 3, none⟩) (Kd.R_far (p := ⟨gb434, 2, none⟩) (Kd.R_far (p := ⟨gb434, 1, none⟩) (Kd.R_far (p := ⟨gb434, 0, none⟩) (Kd.R_types HO431.out BK434.out (by decide)) (fun _ hk => hk.2) (.int .i64 t425)) (fun _ hk => hk.2) (.int .i64 t426)) (fun _ hk => hk.2) (.int .i64 t427)) (fun _ hk => hk.2) (.int .i64 t428)) (fun _ hk => hk.2) (.slice Ao47 t429.length co47)) (fun _ h_ => h_.1)))); (case side2 => exact (Kd.R_reads' HO431.out).2.1); (case side3 => refine (Kd.R_reads' (e := 51) (base := w.heap.size) (ok := fun k_ => (some k_ ≠ (.slice Ao14 t415.length co14 : Value).ownBlock ∧ some k_ ≠ (.slice Ao47 t429.length co47 : Value).ownBlock)) (n := t405.length) (c := co9) ?_).2.2; exact (rpR (Kd.R_mono (Kd.R_far (p := ⟨gb434, 4, none⟩) (Kd.R_far (p := ⟨gb434, 3, none⟩) (Kd.R_far (p := ⟨gb434, 2, none⟩) (Kd.R_far (p := ⟨gb434, 1, none⟩) (Kd.R_far (p := ⟨gb434, 0, none⟩) (Kd.R_types HO_411004.out BK434.out (by decide)) (fun _ hk => hk.2) (.int .i64 t425)) (fun _ hk => hk.2) (.int .i64 t426)) (fun _ hk => hk.2) (.int .i64 t427)) (fun _ hk => hk.2) (.int .i64 t428)) (fun _ hk => hk.2) (.slice Ao47 t429.length co47)) (fun _ h_ => h_.1)))); (case side4 => exact (Kd.R_reads' HO_411004.out).2.1); rintro e w56 ⟨rfl, hb⟩; refine ⟨_, rfl, ?_⟩; replace HO_411004 := Aside0.mk (Kd.R_below (rpR (Kd.R_mono (Kd.R_far (p := ⟨gb434, 4, none⟩) (Kd.R_far (p := ⟨gb434, 3, none⟩) (Kd.R_far (p := ⟨gb434, 2, none⟩) (Kd.R_far (p := ⟨gb434, 1, none⟩) (Kd.R_far (p := ⟨gb434, 0, none⟩) (Kd.R_types HO_411004.out BK434.out (by decide)) (fun _ hk => hk.2) (.int .i64 t425)) (fun _ hk => hk.2) (.int .i64 t426)) (fun _ hk => hk.2) (.int .i64 t427)) (fun _ hk => hk.2) (.int .i64 t428)) (fun _ hk => hk.2) (.slice Ao47 t429.length co47)) (fun _ h_ => h_.1))) hb); replace HO_421004 := Aside0.mk (Kd.R_below (rpR (Kd.R_mono (Kd.R_far (p := ⟨gb434, 4, none⟩) (Kd.R_far (p := ⟨gb434, 3, none⟩) (Kd.R_far (p := ⟨gb434, 2, none⟩) (Kd.R_far (p := ⟨gb434, 1, none⟩) (Kd.R_far (p := ⟨gb434, 0, none⟩) (Kd.R_types HO_421004.out BK434.out (by decide)) (fun _ hk => hk.2) (.int .i64 t425)) (fun _ hk => hk.2) (.int .i64 t426)) (fun _ hk => hk.2) (.int .i64 t427)) (fun _ hk => hk.2) (.int .i64 t428)) (fun _ hk => hk.2) (.slice Ao47 t429.length co47)) (fun _ h_ => h_.1))) hb); replace HO431 := Aside0.mk (Kd.R_below (rpR (Kd.R_mono (Kd.R_far (p := ⟨gb434, 4, none⟩) (Kd.R_far (p := ⟨gb434, 3, none⟩) (Kd.R_far (p := ⟨gb434, 2, none⟩) (Kd.R_far (p := ⟨gb434, 1, none⟩) (Kd.R_far (p := ⟨gb434, 0, none⟩) (Kd.R_types HO431.out BK434.out (by decide)) (fun _ hk => hk.2) (.int .i64 t425)) (fun _ hk => hk.2) (.int .i64 t426)) (fun _ hk => hk.2) (.int .i64 t427)) (fun _ hk => hk.2) (.int .i64 t428)) (fun _ hk => hk.2) (.slice Ao47 t429.length co47)) (fun _ h_ => h_.1))) hb); replace BK410 := Aside0.mk (blk_below (g := gb410) (o := .cells #[.int .i64 t401, .int .i64 t402, .int .i64 t403, .int .i64 t404, .slice Ao9 t405.length co9] 24 (0, 0)) bkk hb); replace BK420 := Aside0.mk (blk_below (g := gb420) (o := .cells #[.int .i64 t411, .int .i64 t412, .int .i64 t413, .int .i64 t414, .slice Ao14 t415.length co14] 24 (0, 0)) bkk hb); replace BK434 := Aside0.mk (blk_below (g := gb434) (o := .cells #[.int .i64 t425, .int .i64 t426, .int .i64 t427, .int .i64 t428, .slice Ao47 t429.length co47] 24 (0, 0)) bkk hb); replace HB := bs (w := w) hb; (try clear hb)))
          go_meet
          case rel => exact ⟨_, ((t433 != t409)), fa, H', ⟨by have := HJ4.out; first | omega | exact Nat.le_refl _⟩, ⟨rpR HO_411004.out⟩, ⟨rpR HO_421004.out⟩, ⟨rpR (Kd.R_mono HO431.out (fun _ hk => ⟨hk.1.2, hk.2⟩))⟩, ⟨by (with_reducible repeat (first | refine blk_drewN ?_ _ | refine blk_drew ?_ | refine blk_alloc ?_ _)); exact BK410.out⟩, ⟨by (with_reducible repeat (first | refine blk_drewN ?_ _ | refine blk_drew ?_ | refine blk_alloc ?_ _)); exact BK420.out⟩, ⟨by (with_reducible repeat (first | refine blk_drewN ?_ _ | refine blk_drew ?_ | refine blk_alloc ?_ _)); exact BK434.out⟩, ⟨bl⟩⟩
         ·rw [if_neg c50] at H
          have c50b0 : (t432 == t408) = false := beq_eq_false_iff_ne.mpr c50
          have c50b1 : (t432 != t408) = true := bne_iff_ne.mpr c50
          (first | rw [c50b0] | (simp only [i64_w, i32_w]; rw [c50b0]) | skip)
          have H' := Aside0.mk H
          clear H
          have hnb57 := NB434_410.out
          have hnc57 := NB410_434.out
          have hnb58 := NB434_420.out
          have hnc58 := NB420_434.out
          obtain ⟨Z59_0, Z59_1, Z59_2, Z59_3, Z59_4, Y59_0, Y59_1, Y59_2, Y59_3, Y59_4⟩ := cf5 BK434
          have hnb60 := NB410_420.out
          have hnc60 := NB420_410.out
          obtain ⟨Z61_0, Z61_1, Z61_2, Z61_3, Z61_4, Y61_0, Y61_1, Y61_2, Y61_3, Y61_4⟩ := cf5 BK410
          go_wp2_with (first | ((with_reducible refine gC 6 rfl ?_); refine goesZ (some 62) rfl Try.func6 #[.agg #[.int .i64 t425, .int .i64 t426, .int .i64 t427, .int .i64 t428, .slice Ao47 t429.length co47], .agg #[.int .i64 t401, .int .i64 t402, .int .i64 t403, .int .i64 t404, .slice Ao9 t405.length co9]] ?_; (with_reducible refine (laws_eqWal.calls kj4 t425 t426 t427 t428 _ _ t429 t401 t402 t403 t404 _ _ t405 true _ ?side1 ?side2 ?side3 ?side4 A48.out).mono ?_); (case side1 => refine (Kd.R_reads' (e := 51) (base := w.heap.size) (ok := fun k_ => ((True ∧ some k_ ≠ (.slice Ao9 t405.length co9 : Value).ownBlock) ∧ some k_ ≠ (.slice Ao14 t415.length co14 : Value).ownBlock)) (n := t429.length) (c := co47) ?_).2.2; exact (rpR (Kd.R_mono (Kd.R_far (p := ⟨gb434, 4, none⟩) (Kd.R_far (p := ⟨gb434, 3, none⟩) (Kd.R_far (p := ⟨gb434, 2, none⟩) (Kd.R_far (p := ⟨gb434, 1, none⟩) (Kd.R_far (p := ⟨gb434, 0, none⟩) (Kd.R_types HO431.out BK434.out (by decide)) (fun _ hk => hk.2) (.int .i64 t425)) (fun _ hk => hk.2) (.int .i64 t426)) (fun _ hk => hk.2) (.int .i64 t427)) (fun _ hk => hk.2) (.int .i64 t428)) (fun _ hk => hk.2) (.slice Ao47 t429.length co47)) (fun _ h_ => h_.1)))); (case side2 => exact (Kd.R_reads' HO431.out).2.1); (case side3 => refine (Kd.R_reads' (e := 51) (base := w.heap.size) (ok := fun k_ => (some k_ ≠ (.slice Ao14 t415.length co14 : Value).ownBlock ∧ some k_ ≠ (.slice Ao47 t429.length co47 : Value).ownBlock)) (n := t405.length) (c := co9) ?_).2.2; exact (rpR (Kd.R_mono (Kd.R_far (p := ⟨gb434, 4, none⟩) (Kd.R_far (p := ⟨gb434, 3, none⟩) (Kd.R_far (p := ⟨gb434, 2, none⟩) (Kd.R_far (p := ⟨gb434, 1, none⟩) (Kd.R_far (p := ⟨gb434, 0, none⟩) (Kd.R_types HO_411004.out BK434.out (by decide)) (fun _ hk => hk.2) (.int .i64 t425)) (fun _ hk => hk.2) (.int .i64 t426)) (fun _ hk => hk.2) (.int .i64 t427)) (fun _ hk => hk.2) (.int .i64 t428)) (fun _ hk => hk.2) (.slice Ao47 t429.length co47)) (fun _ h_ => h_.1)))); (case side4 => exact (Kd.R_reads' HO_411004.out).2.1); rintro e w62 ⟨rfl, hb⟩; refine ⟨_, rfl, ?_⟩; replace HO_411004 := Aside0.mk (Kd.R_below (rpR (Kd.R_mono (Kd.R_far (p := ⟨gb434, 4, none⟩) (Kd.R_far (p := ⟨gb434, 3, none⟩) (Kd.R_far (p := ⟨gb434, 2, none⟩) (Kd.R_far (p := ⟨gb434, 1, none⟩) (Kd.R_far (p := ⟨gb434, 0, none⟩) (Kd.R_types HO_411004.out BK434.out (by decide)) (fun _ hk => hk.2) (.int .i64 t425)) (fun _ hk => hk.2) (.int .i64 t426)) (fun _ hk => hk.2) (.int .i64 t427)) (fun _ hk => hk.2) (.int .i64 t428)) (fun _ hk => hk.2) (.slice Ao47 t429.length co47)) (fun _ h_ => h_.1))) hb); replace HO_421004 := Aside0.mk (Kd.R_below (rpR (Kd.R_mono (Kd.R_far (p := ⟨gb434, 4, none⟩) (Kd.R_far (p := ⟨gb434, 3, none⟩) (Kd.R_far (p := ⟨gb434, 2, none⟩) (Kd.R_far (p := ⟨gb434, 1, none⟩) (Kd.R_far (p := ⟨gb434, 0, none⟩) (Kd.R_types HO_421004.out BK434.out (by decide)) (fun _ hk => hk.2) (.int .i64 t425)) (fun _ hk => hk.2) (.int .i64 t426)) (fun _ hk => hk.2) (.int .i64 t427)) (fun _ hk => hk.2) (.int .i64 t428)) (fun _ hk => hk.2) (.slice Ao47 t429.length co47)) (fun _ h_ => h_.1))) hb); replace HO431 := Aside0.mk (Kd.R_below (rpR (Kd.R_mono (Kd.R_far (p := ⟨gb434, 4, none⟩) (Kd.R_far (p := ⟨gb434, 3, none⟩) (Kd.R_far (p := ⟨gb434, 2, none⟩) (Kd.R_far (p := ⟨gb434, 1, none⟩) (Kd.R_far (p := ⟨gb434, 0, none⟩) (Kd.R_types HO431.out BK434.out (by decide)) (fun _ hk => hk.2) (.int .i64 t425)) (fun _ hk => hk.2) (.int .i64 t426)) (fun _ hk => hk.2) (.int .i64 t427)) (fun _ hk => hk.2) (.int .i64 t428)) (fun _ hk => hk.2) (.slice Ao47 t429.length co47)) (fun _ h_ => h_.1))) hb); replace BK410 := Aside0.mk (blk_below (g := gb410) (o := .cells #[.int .i64 t401, .int .i64 t402, .int .i64 t403, .int .i64 t404, .slice Ao9 t405.length co9] 24 (0, 0)) bkk hb); replace BK420 := Aside0.mk (blk_below (g := gb420) (o := .cells #[.int .i64 t411, .int .i64 t412, .int .i64 t413, .int .i64 t414, .slice Ao14 t415.length co14] 24 (0, 0)) bkk hb); replace BK434 := Aside0.mk (blk_below (g := gb434) (o := .cells #[.int .i64 t425, .int .i64 t426, .int .i64 t427, .int .i64 t428, .slice Ao47 t429.length co47] 24 (0, 0)) bkk hb); replace HB := bs (w := w) hb; (try clear hb)))
          go_meet
          case rel => exact ⟨_, (true), fa, H', ⟨by have := HJ4.out; first | omega | exact Nat.le_refl _⟩, ⟨rpR HO_411004.out⟩, ⟨rpR HO_421004.out⟩, ⟨rpR (Kd.R_mono HO431.out (fun _ hk => ⟨hk.1.2, hk.2⟩))⟩, ⟨by (with_reducible repeat (first | refine blk_drewN ?_ _ | refine blk_drew ?_ | refine blk_alloc ?_ _)); exact BK410.out⟩, ⟨by (with_reducible repeat (first | refine blk_drewN ?_ _ | refine blk_drew ?_ | refine blk_alloc ?_ _)); exact BK420.out⟩, ⟨by (with_reducible repeat (first | refine blk_drewN ?_ _ | refine blk_drew ?_ | refine blk_alloc ?_ _)); exact BK434.out⟩, ⟨bl⟩⟩
        ·replace c49 := Bool.eq_false_iff.mpr c49
         subst c49
         replace H := iF H
         have H' := Aside0.mk H
         clear H
         have hnb63 := NB434_410.out
         have hnc63 := NB410_434.out
         have hnb64 := NB434_420.out
         have hnc64 := NB420_434.out
         obtain ⟨Z65_0, Z65_1, Z65_2, Z65_3, Z65_4, Y65_0, Y65_1, Y65_2, Y65_3, Y65_4⟩ := cf5 BK434
         have hnb66 := NB410_420.out
         have hnc66 := NB420_410.out
         obtain ⟨Z67_0, Z67_1, Z67_2, Z67_3, Z67_4, Y67_0, Y67_1, Y67_2, Y67_3, Y67_4⟩ := cf5 BK410
         go_wp2_with (first | ((with_reducible refine gC 6 rfl ?_); refine goesZ (some 62) rfl Try.func6 #[.agg #[.int .i64 t425, .int .i64 t426, .int .i64 t427, .int .i64 t428, .slice Ao47 t429.length co47], .agg #[.int .i64 t401, .int .i64 t402, .int .i64 t403, .int .i64 t404, .slice Ao9 t405.length co9]] ?_; (with_reducible refine (laws_eqWal.calls kj4 t425 t426 t427 t428 _ _ t429 t401 t402 t403 t404 _ _ t405 false _ ?side1 ?side2 ?side3 ?side4 A48.out).mono ?_); (case side1 => refine (Kd.R_reads' (e := 51) (base := w.heap.size) (ok := fun k_ => ((True ∧ some k_ ≠ (.slice Ao9 t405.length co9 : Value).ownBlock) ∧ some k_ ≠ (.slice Ao14 t415.length co14 : Value).ownBlock)) (n := t429.length) (c := co47) ?_).2.2; exact (rpR (Kd.R_mono (Kd.R_far (p := ⟨gb434, 4, none⟩) (Kd.R_far (p := ⟨gb434, 3, none⟩) (Kd.R_far (p := ⟨gb434, 2, none⟩) (Kd.R_far (p := ⟨gb434, 1, none⟩) (Kd.R_far (p := ⟨gb434, 0, none⟩) (Kd.R_types HO431.out BK434.out (by decide)) (fun _ hk => hk.2) (.int .i64 t425)) (fun _ hk => hk.2) (.int .i64 t426)) (fun _ hk => hk.2) (.int .i64 t427)) (fun _ hk => hk.2) (.int .i64 t428)) (fun _ hk => hk.2) (.slice Ao47 t429.length co47)) (fun _ h_ => h_.1)))); (case side2 => exact (Kd.R_reads' HO431.out).2.1); (case side3 => refine (Kd.R_reads' (e := 51) (base := w.heap.size) (ok := fun k_ => (some k_ ≠ (.slice Ao14 t415.length co14 : Value).ownBlock ∧ some k_ ≠ (.slice Ao47 t429.length co47 : Value).ownBlock)) (n := t405.length) (c := co9) ?_).2.2; exact (rpR (Kd.R_mono (Kd.R_far (p := ⟨gb434, 4, none⟩) (Kd.R_far (p := ⟨gb434, 3, none⟩) (Kd.R_far (p := ⟨gb434, 2, none⟩) (Kd.R_far (p := ⟨gb434, 1, none⟩) (Kd.R_far (p := ⟨gb434, 0, none⟩) (Kd.R_types HO_411004.out BK434.out (by decide)) (fun _ hk => hk.2) (.int .i64 t425)) (fun _ hk => hk.2) (.int .i64 t426)) (fun _ hk => hk.2) (.int .i64 t427)) (fun _ hk => hk.2) (.int .i64 t428)) (fun _ hk => hk.2) (.slice Ao47 t429.length co47)) (fun _ h_ => h_.1)))); (case side4 => exact (Kd.R_reads' HO_411004.out).2.1); rintro e w68 ⟨rfl, hb⟩; refine ⟨_, rfl, ?_⟩; replace HO_411004 := Aside0.mk (Kd.R_below (rpR (Kd.R_mono (Kd.R_far (p := ⟨gb434, 4, none⟩) (Kd.R_far (p := ⟨gb434, 3, none⟩) (Kd.R_far (p := ⟨gb434, 2, none⟩) (Kd.R_far (p := ⟨gb434, 1, none⟩) (Kd.R_far (p := ⟨gb434, 0, none⟩) (Kd.R_types HO_411004.out BK434.out (by decide)) (fun _ hk => hk.2) (.int .i64 t425)) (fun _ hk => hk.2) (.int .i64 t426)) (fun _ hk => hk.2) (.int .i64 t427)) (fun _ hk => hk.2) (.int .i64 t428)) (fun _ hk => hk.2) (.slice Ao47 t429.length co47)) (fun _ h_ => h_.1))) hb); replace HO_421004 := Aside0.mk (Kd.R_below (rpR (Kd.R_mono (Kd.R_far (p := ⟨gb434, 4, none⟩) (Kd.R_far (p := ⟨gb434, 3, none⟩) (Kd.R_far (p := ⟨gb434, 2, none⟩) (Kd.R_far (p := ⟨gb434, 1, none⟩) (Kd.R_far (p := ⟨gb434, 0, none⟩) (Kd.R_types HO_421004.out BK434.out (by decide)) (fun _ hk => hk.2) (.int .i64 t425)) (fun _ hk => hk.2) (.int .i64 t426)) (fun _ hk => hk.2) (.int .i64 t427)) (fun _ hk => hk.2) (.int .i64 t428)) (fun _ hk => hk.2) (.slice Ao47 t429.length co47)) (fun _ h_ => h_.1))) hb); replace HO431 := Aside0.mk (Kd.R_below (rpR (Kd.R_mono (Kd.R_far (p := ⟨gb434, 4, none⟩) (Kd.R_far (p := ⟨gb434, 3, none⟩) (Kd.R_far (p := ⟨gb434, 2, none⟩) (Kd.R_far (p := ⟨gb434, 1, none⟩) (Kd.R_far (p := ⟨gb434, 0, none⟩) (Kd.R_types HO431.out BK434.out (by decide)) (fun _ hk => hk.2) (.int .i64 t425)) (fun _ hk => hk.2) (.int .i64 t426)) (fun _ hk => hk.2) (.int .i64 t427)) (fun _ hk => hk.2) (.int .i64 t428)) (fun _ hk => hk.2) (.slice Ao47 t429.length co47)) (fun _ h_ => h_.1))) hb); replace BK410 := Aside0.mk (blk_below (g := gb410) (o := .cells #[.int .i64 t401, .int .i64 t402, .int .i64 t403, .int .i64 t404, .slice Ao9 t405.length co9] 24 (0, 0)) bkk hb); replace BK420 := Aside0.mk (blk_below (g := gb420) (o := .cells #[.int .i64 t411, .int .i64 t412, .int .i64 t413, .int .i64 t414, .slice Ao14 t415.length co14] 24 (0, 0)) bkk hb); replace BK434 := Aside0.mk (blk_below (g := gb434) (o := .cells #[.int .i64 t425, .int .i64 t426, .int .i64 t427, .int .i64 t428, .slice Ao47 t429.length co47] 24 (0, 0)) bkk hb); replace HB := bs (w := w) hb; (try clear hb)))
         go_meet
         case rel => exact ⟨_, (true), fa, H', ⟨by have := HJ4.out; first | omega | exact Nat.le_refl _⟩, ⟨rpR HO_411004.out⟩, ⟨rpR HO_421004.out⟩, ⟨rpR (Kd.R_mono HO431.out (fun _ hk => ⟨hk.1.2, hk.2⟩))⟩, ⟨by (with_reducible repeat (first | refine blk_drewN ?_ _ | refine blk_drew ?_ | refine blk_alloc ?_ _)); exact BK410.out⟩, ⟨by (with_reducible repeat (first | refine blk_drewN ?_ _ | refine blk_drew ?_ | refine blk_alloc ?_ _)); exact BK420.out⟩, ⟨by (with_reducible repeat (first | refine blk_drewN ?_ _ | refine blk_drew ?_ | refine blk_alloc ?_ _)); exact BK434.out⟩, ⟨bl⟩⟩
       case rest =>
        clear HC36
        try clear c1
        try clear c2
        try clear c2b0
        try clear c2b1
        try clear p2
        try clear c3
        try clear c4
        try clear c5
        try clear c6
        try clear c7
        try clear c8
        try clear c12
        try clear c16
        try clear c17
        try clear c17b0
        try clear c17b1
        try clear c18
        try clear c22
        try clear c26
        try clear c30
        try clear c33
        try clear c33b0
        try clear c34
        try clear c34b0
        try clear c34b1
        try clear c37
        try clear c44
        try clear c45
        try clear c49
        try clear c50
        try clear c50b0
        try clear c50b1
        try clear c51
        try clear c52
        try clear c54
        try clear c57
        try clear c58
        try clear c60
        try clear c63
        try clear c64
        try clear c66
        try clear Z13_0 Z13_1 Z13_2 Z13_3 Z13_4
        try clear Z19_0 Z19_1 Z19_2 Z19_3 Z19_4
        try clear Z20_0 Z20_1 Z20_2 Z20_3 Z20_4
        try clear Z23_0 Z23_1 Z23_2 Z23_3 Z23_4
        try clear Z24_0 Z24_1 Z24_2 Z24_3 Z24_4
        try clear Z27_0 Z27_1 Z27_2 Z27_3 Z27_4
        try clear Z28_0 Z28_1 Z28_2 Z28_3 Z28_4
        try clear Z38_0 Z38_1 Z38_2 Z38_3 Z38_4
        try clear Z40_0 Z40_1 Z40_2 Z40_3 Z40_4
        try clear Z46_0 Z46_1 Z46_2 Z46_3 Z46_4
        try clear Z53_0 Z53_1 Z53_2 Z53_3 Z53_4
        try clear Z55_0 Z55_1 Z55_2 Z55_3 Z55_4
        try clear Z59_0 Z59_1 Z59_2 Z59_3 Z59_4
        try clear Z61_0 Z61_1 Z61_2 Z61_3 Z61_4
        try clear Z65_0 Z65_1 Z65_2 Z65_3 Z65_4
        try clear Z67_0 Z67_1 Z67_2 Z67_3 Z67_4
        try clear Z8_0 Z8_1 Z8_2 Z8_3 Z8_4
        try clear Y13_0 Y13_1 Y13_2 Y13_3 Y13_4
        try clear Y19_0 Y19_1 Y19_2 Y19_3 Y19_4
        try clear Y20_0 Y20_1 Y20_2 Y20_3 Y20_4
        try clear Y23_0 Y23_1 Y23_2 Y23_3 Y23_4
        try clear Y24_0 Y24_1 Y24_2 Y24_3 Y24_4
        try clear Y27_0 Y27_1 Y27_2 Y27_3 Y27_4
        try clear Y28_0 Y28_1 Y28_2 Y28_3 Y28_4
        try clear Y38_0 Y38_1 Y38_2 Y38_3 Y38_4
        try clear Y40_0 Y40_1 Y40_2 Y40_3 Y40_4
        try clear Y46_0 Y46_1 Y46_2 Y46_3 Y46_4
        try clear Y53_0 Y53_1 Y53_2 Y53_3 Y53_4
        try clear Y55_0 Y55_1 Y55_2 Y55_3 Y55_4
        try clear Y59_0 Y59_1 Y59_2 Y59_3 Y59_4
        try clear Y61_0 Y61_1 Y61_2 Y61_3 Y61_4
        try clear Y65_0 Y65_1 Y65_2 Y65_3 Y65_4
        try clear Y67_0 Y67_1 Y67_2 Y67_3 Y67_4
        try clear Y8_0 Y8_1 Y8_2 Y8_3 Y8_4
        try clear p2
        obtain ⟨kq, x73_35, rfl, HA, HJ35, HO_411004, HO_421004, HO_435004, BK410, BK420, BK434, HB⟩ := hcut
        have hl421004_35 := (Kd.R_reads' HO_421004.out).1
        rw [hl421004_35] at HO_421004
        (try simp only [hl421004_35])
        (try simp only [hl421004_35] at BK410)
        (try simp only [hl421004_35] at BK420)
        (try simp only [hl421004_35] at BK434)
        (try simp only [hl421004_35] at HO_411004)
        (try simp only [hl421004_35] at HO_435004)
        cases kq with
        | zero => exact absurd HA.out (by simp [laws_FnExactReplay.j1])
        | succ kj35 =>
         have H := HA.out
         clear HA
         simp only [laws_FnExactReplay.j1] at H
         by_cases c69 : x73_35 = true
         ·subst c69
          replace H := iT H
          exact absurd ((Option.some.inj H).trans hr_) (by decide)
         ·replace c69 := Bool.eq_false_iff.mpr c69
          subst c69
          replace H := iF H
          obtain ⟨t436, A70, H⟩ := bd H
          by_cases c71 : t436 < 0
          ·rw [if_pos c71] at H
           have c71b0 : decide (t436 < 0) = true := decide_eq_true c71
           clear c71
           exact absurd ((Option.some.inj H).trans hr_) (by decide)
          ·rw [if_neg c71] at H
           have c71b0 : decide (t436 < 0) = false := decide_eq_false c71
           clear c71
           by_cases c72 : t436 = t422
           ·rw [if_pos c72] at H
            have c72b0 : (t436 == t422) = true := beq_iff_eq.mpr c72
            have c72b1 : (t436 != t422) = false := bne_eq_false_iff_eq.mpr c72
            clear c72
            obtain rfl := Option.some.inj H
            have hnb73 := NB420_410.out
            have hnc73 := NB410_420.out
            have hnb74 := NB420_434.out
            have hnc74 := NB434_420.out
            obtain ⟨Z75_0, Z75_1, Z75_2, Z75_3, Z75_4, Y75_0, Y75_1, Y75_2, Y75_3, Y75_4⟩ := cf5 BK420
            go_wp2_with (first | ((with_reducible refine gC 8 rfl ?_); refine goesZ (some 76) rfl Try.func8 #[.agg #[.int .i64 t411, .int .i64 t412, .int .i64 t413, .int .i64 t414, .slice Ao14 t423.length co14], .int .i64 1] ?_; (with_reducible refine (laws_heldWal.calls kj35 t411 t412 t413 t414 _ _ t423 1 t436 _ ?side1 ?side2 A70.out).mono ?_); (case side1 => exact ca ((Kd.R_reads' HO_421004.out).2.2)); (case side2 => exact (Kd.R_reads' HO_421004.out).2.1); rintro e w76 ⟨rfl, hb⟩; refine ⟨_, rfl, ?_⟩; replace HO_411004 := Aside0.mk (Kd.R_below (rpR HO_411004.out) hb); replace HO_421004 := Aside0.mk (Kd.R_below (rpR HO_421004.out) hb); replace HO_435004 := Aside0.mk (Kd.R_below (rpR HO_435004.out) hb); replace BK410 := bv BK410 hb; replace BK420 := bv BK420 hb; replace BK434 := bv BK434 hb; replace HB := bs (w := w) hb; (try clear hb)))
            go_ret
            exact ⟨fe, bl⟩
           ·rw [if_neg c72] at H
            have c72b0 : (t436 == t422) = false := beq_eq_false_iff_ne.mpr c72
            have c72b1 : (t436 != t422) = true := bne_iff_ne.mpr c72
            exact absurd ((Option.some.inj H).trans hr_) (by decide)
      ·rw [if_neg c34] at H
       have c34b0 : (t424 == t422) = false := beq_eq_false_iff_ne.mpr c34
       have c34b1 : (t424 != t422) = true := bne_iff_ne.mpr c34
       exact absurd ((Option.some.inj H).trans hr_) (by decide)

/-- THE ONE PURE STATEMENT of laws_FnExactReplay: yours. -/
def laws_FnExactReplay.Pure : Prop := ∀ (a0 : ByteArray), a0.size ≤ 140737488351232 → ∃ k, laws_FnExactReplay.f k a0 = some true
theorem laws_FnExactReplay.walk (P : laws_FnExactReplay.Pure) (a0 : ByteArray) (w : World) (w0 : a0.size ≤ 140737488351232) :
 Calls Try.prog 3 #[.string a0] w fun e w' => e = .returned (.bool true) ∧ Below w.heap.size w w' := by
 obtain ⟨k, h⟩ := P a0 w0
 refine (laws_FnExactReplay.calls k a0 true w h rfl).mono ?_
 rintro e w' ⟨rfl, hd⟩
 exact ⟨rfl, hd⟩

end Go.Proofs.Ytflegbpgkkiijaa.PFnExactReplay
