/- Functions of the program, each with its contract, written by a program out of the translation. -/
import Derived.Test.YtjcmcamijaelbaaPDiskx0
import Derived.Test.YtjcmcamijaelbaaPDiskx2
import Derived.Test.YtjcmcamijaelbaaPDiskx5
import Derived.Test.YtjcmcamijaelbaaPDiskx6
import Derived.Test.YtjcmcamijaelbaaPDiskx13
import Derived.Test.YtjcmcamijaelbaaZip
namespace Go.Proofs.Ytjcmcamijaelbaa.PFnExactDiskOk
open Go.RowKit Go.Proofs.YtjcmcamijaelbaaW.PrintWords Go.Proofs.YtjcmcamijaelbaaW.PrintLast Go.Proofs.YtjcmcamijaelbaaW.PrintMore Go.Proofs.Ytjcmcamijaelbaa.PDisk Go.Proofs.Ytjcmcamijaelbaa.Zip
attribute [local go_sem] max2_int min2_int max_two min_two max_three min_three max_four min_four   -- for this text's walks alone
set_option linter.unusedVariables false
set_option linter.unusedSimpArgs false
/-! ### laws_FnExactDiskOk: function 5 -/
def laws_FnExactDiskOk.f (k : Nat) (a0_0 : Int) (a0_1 : Int) (l0_2 : List (S134)) (l0_3 : List (S136)) (l0_4 : List (S138)) : Option (Bool) := (laws_szDisk.f k a0_0 a0_1 l0_2 l0_3 l0_4 1048576).bind fun t363 => (if t363 < 0 then (some true) else ((laws_toDisk.f k a0_0 a0_1 l0_2 l0_3 l0_4).bind fun bt364 => ((spec_DiskOk.f k bt364.1 bt364.2.1 bt364.2.2.1 bt364.2.2.2.1 bt364.2.2.2.2).bind fun t375 => ((laws_toDisk.f k a0_0 a0_1 l0_2 l0_3 l0_4).bind fun bt376 => ((impl_DiskOk.f k bt376.1 bt376.2.1 bt376.2.2.1 bt376.2.2.2.1 bt376.2.2.2.2).bind fun t388 => (if (t388 != t375) = true then (some false) else ((laws_toDisk.f k a0_0 a0_1 l0_2 l0_3 l0_4).bind fun bt389 => ((laws_eqDisk.f k bt376.1 bt376.2.1 bt376.2.2.1 bt376.2.2.2.1 bt376.2.2.2.2 bt389.1 bt389.2.1 bt389.2.2.1 bt389.2.2.2.1 bt389.2.2.2.2).bind fun t400 => (if t400 = true then (some true) else (some false))))))))))
theorem laws_FnExactDiskOk.mono : ∀ a0 a1 a2 a3 a4 k, LeO (laws_FnExactDiskOk.f k a0 a1 a2 a3 a4) (laws_FnExactDiskOk.f (k + 1) a0 a1 a2 a3 a4) := by
 intro a0 a1 a2 a3 a4 k
 unfold laws_FnExactDiskOk.f
 repeat' first
  | (with_reducible exact impl_DiskOk.mono _ _ _ _ _ _)
  | (with_reducible exact laws_eqDisk.mono _ _ _ _ _ _ _ _ _ _ _)
  | (with_reducible exact laws_szDisk.mono _ _ _ _ _ _ _)
  | (with_reducible exact laws_toDisk.mono _ _ _ _ _ _)
  | (with_reducible exact spec_DiskOk.mono _ _ _ _ _ _)
  | (with_reducible exact LeO.refl _)
  | (with_reducible exact LeO.none _)
  | (with_reducible refine LeO.ite ?_ ?_)
  | (with_reducible refine LeO.bind ?_ (fun _ => ?_))
  | exact impl_DiskOk.mono _ _ _ _ _ _
  | exact laws_eqDisk.mono _ _ _ _ _ _ _ _ _ _ _
  | exact laws_szDisk.mono _ _ _ _ _ _ _
  | exact laws_toDisk.mono _ _ _ _ _ _
  | exact spec_DiskOk.mono _ _ _ _ _ _
  | exact LeO.none _
  | refine LeO.ite ?_ ?_
  | refine LeO.bind ?_ (fun _ => ?_)
set_option maxHeartbeats 8000000 in
set_option maxRecDepth 100000 in
theorem laws_FnExactDiskOk.calls (k : Nat) (a0_0 : Int) (a0_1 : Int) (A0_2 : Option Addr) (c0_2 : Nat) (l0_2 : List (S134)) (A0_3 : Option Addr) (c0_3 : Nat) (l0_3 : List (S136)) (A0_4 : Option Addr) (c0_4 : Nat) (l0_4 : List (S138)) (r : Bool) (w : World) (hr0_2 : Kd.C k134 w A0_2 l0_2.length l0_2) (hc0_2 : l0_2.length ≤ c0_2) (hr0_3 : Kd.C k136 w A0_3 l0_3.length l0_3) (hc0_3 : l0_3.length ≤ c0_3) (hr0_4 : Kd.C k138 w A0_4 l0_4.length l0_4) (hc0_4 : l0_4.length ≤ c0_4) (h : laws_FnExactDiskOk.f k a0_0 a0_1 l0_2 l0_3 l0_4 = some r) (hr_ : r = true) :
 Calls Try.prog 5 #[.agg #[.int .i64 a0_0, .int .i64 a0_1, .slice A0_2 l0_2.length c0_2, .slice A0_3 l0_3.length c0_3, .slice A0_4 l0_4.length c0_4]] w fun e w' => e = .returned (.bool r) ∧ Below w.heap.size w w' := by
 have hu44 := Try.underlying44
 have hu26 := Try.underlying26
 have HR0_2 := Aside0.mk hr0_2
 have HC0_2 := Aside0.mk hc0_2
 clear hr0_2 hc0_2
 have HR0_3 := Aside0.mk hr0_3
 have HC0_3 := Aside0.mk hc0_3
 clear hr0_3 hc0_3
 have HR0_4 := Aside0.mk hr0_4
 have HC0_4 := Aside0.mk hc0_4
 clear hr0_4 hc0_4
 have HB := Aside0.mk (Below.refl w.heap.size w)
 have H : ((laws_szDisk.f k a0_0 a0_1 l0_2 l0_3 l0_4 1048576).bind fun t363 => (if t363 < 0 then (some true) else ((laws_toDisk.f k a0_0 a0_1 l0_2 l0_3 l0_4).bind fun bt364 => ((spec_DiskOk.f k bt364.1 bt364.2.1 bt364.2.2.1 bt364.2.2.2.1 bt364.2.2.2.2).bind fun t375 => ((laws_toDisk.f k a0_0 a0_1 l0_2 l0_3 l0_4).bind fun bt376 => ((impl_DiskOk.f k bt376.1 bt376.2.1 bt376.2.2.1 bt376.2.2.2.1 bt376.2.2.2.2).bind fun t388 => (if (t388 != t375) = true then (some false) else ((laws_toDisk.f k a0_0 a0_1 l0_2 l0_3 l0_4).bind fun bt389 => ((laws_eqDisk.f k bt376.1 bt376.2.1 bt376.2.2.1 bt376.2.2.2.1 bt376.2.2.2.2 bt389.1 bt389.2.1 bt389.2.2.1 bt389.2.2.2.1 bt389.2.2.2.2).bind fun t400 => (if t400 = true then (some true) else (some false))))))))))) = some r := h
 clear h
 obtain ⟨t363, A2, H⟩ := bd H
 by_cases c3 : t363 < 0
 ·rw [if_pos c3] at H
  have c3b0 : decide (t363 < 0) = true := decide_eq_true c3
  clear c3
  obtain rfl := Option.some.inj H
  go_enter Try.func5, Try.ntmps5
  go_wp2_with (first | ((with_reducible refine gD 1 rfl ?_); refine boxZ 1 #[.int .i64 a0_0, .int .i64 a0_1, .slice A0_2 l0_2.length c0_2, .slice A0_3 l0_3.length c0_3, .slice A0_4 l0_4.length c0_4] 44 ?_; intro gb362 hg w4 hbox hb; have BK362 := Aside0.mk hbox; have GW362 := gw (w := w) hg; have GE362 := gw (w := w) hg; replace HB := bs (w := w) hb; clear hb hbox hg; obtain ⟨Z5_0, Z5_1, Z5_2, Z5_3, Z5_4, Y5_0, Y5_1, Y5_2, Y5_3, Y5_4⟩ := cf5 BK362) | ((with_reducible refine gC 25 rfl ?_); refine goesZ (some 9) rfl Try.func25 #[.agg #[.int .i64 a0_0, .int .i64 a0_1, .slice A0_2 l0_2.length c0_2, .slice A0_3 l0_3.length c0_3, .slice A0_4 l0_4.length c0_4], .int .i64 1048576] ?_; (with_reducible refine (laws_szDisk.calls k a0_0 a0_1 _ _ l0_2 _ _ l0_3 _ _ l0_4 1048576 t363 _ ?side1 ?side2 ?side3 ?side4 ?side5 ?side6 A2.out).mono ?_); (case side1 => exact ca (Kd.C_below HR0_2.out HB.out)); (case side2 => exact HC0_2.out); (case side3 => exact ca (Kd.C_below HR0_3.out HB.out)); (case side4 => exact HC0_3.out); (case side5 => exact ca (Kd.C_below HR0_4.out HB.out)); (case side6 => exact HC0_4.out); rintro e w6 ⟨rfl, hb⟩; refine ⟨_, rfl, ?_⟩; replace BK362 := bv BK362 hb; replace HB := bs (w := w) hb; (try clear hb)))
  go_ret
  exact ⟨fe, bl⟩
 ·rw [if_neg c3] at H
  have c3b0 : decide (t363 < 0) = false := decide_eq_false c3
  clear c3
  replace H := Option.bind_eq_some_iff.mp H
  obtain ⟨⟨t364, t365, t366, t369, t372⟩, A70, H⟩ := H
  replace H : ((spec_DiskOk.f k t364 t365 t366 t369 t372).bind fun t375 => ((laws_toDisk.f k a0_0 a0_1 l0_2 l0_3 l0_4).bind fun bt376 => ((impl_DiskOk.f k bt376.1 bt376.2.1 bt376.2.2.1 bt376.2.2.2.1 bt376.2.2.2.2).bind fun t388 => (if (t388 != t375) = true then (some false) else ((laws_toDisk.f k a0_0 a0_1 l0_2 l0_3 l0_4).bind fun bt389 => ((laws_eqDisk.f k bt376.1 bt376.2.1 bt376.2.2.1 bt376.2.2.2.1 bt376.2.2.2.2 bt389.1 bt389.2.1 bt389.2.2.1 bt389.2.2.2.1 bt389.2.2.2.2).bind fun t400 => (if t400 = true then (some true) else (some false)))))))) = some r := H
  have A7 := Aside0.mk A70
  clear A70
  obtain ⟨t375, A8, H⟩ := bd H
  replace H := Option.bind_eq_some_iff.mp H
  obtain ⟨⟨t376, t377, t378, t381, t384⟩, A90, H⟩ := H
  replace H : ((impl_DiskOk.f k t376 t377 t378 t381 t384).bind fun t388 => (if (t388 != t375) = true then (some false) else ((laws_toDisk.f k a0_0 a0_1 l0_2 l0_3 l0_4).bind fun bt389 => ((laws_eqDisk.f k t376 t377 t378 t381 t384 bt389.1 bt389.2.1 bt389.2.2.1 bt389.2.2.2.1 bt389.2.2.2.2).bind fun t400 => (if t400 = true then (some true) else (some false)))))) = some r := H
  have A9 := Aside0.mk A90
  clear A90
  obtain ⟨t388, A10, H⟩ := bd H
  by_cases c11 : (t388 != t375) = true
  ·rw [if_pos c11] at H
   have c11b0 : (t388 != t375) = true := c11
   (try (have c11b1 : decide (t388 = t375) = false := by simpa using c11))
   (try (have c11b2 : (t388 == t375) = false := by simpa using c11))
   (try (have c11b3 : ¬ (t388 = t375) := by simpa using c11))
   clear c11
   exact absurd ((Option.some.inj H).trans hr_) (by decide)
  ·rw [if_neg c11] at H
   have c11b0 : (t388 != t375) = false := by simpa using c11
   (try (have c11b1 : decide (t388 = t375) = true := by simpa using c11))
   (try (have c11b2 : (t388 == t375) = true := by simpa using c11))
   clear c11
   replace H := Option.bind_eq_some_iff.mp H
   obtain ⟨⟨t389, t390, t391, t394, t397⟩, A120, H⟩ := H
   replace H : ((laws_eqDisk.f k t376 t377 t378 t381 t384 t389 t390 t391 t394 t397).bind fun t400 => (if t400 = true then (some true) else (some false))) = some r := H
   have A12 := Aside0.mk A120
   clear A120
   obtain ⟨t400, A13, H⟩ := bd H
   by_cases c14 : t400 = true
   ·subst c14
    replace H := iT H
    obtain rfl := Option.some.inj H
    go_enter Try.func5, Try.ntmps5
    try go_wp2_with (first | ((with_reducible refine gD 1 rfl ?_); refine boxZ 1 #[.int .i64 a0_0, .int .i64 a0_1, .slice A0_2 l0_2.length c0_2, .slice A0_3 l0_3.length c0_3, .slice A0_4 l0_4.length c0_4] 44 ?_; intro gb362 hg w15 hbox hb; have BK362 := Aside0.mk hbox; have GW362 := gw (w := w) hg; have GE362 := gw (w := w) hg; replace HB := bs (w := w) hb; clear hb hbox hg; obtain ⟨Z16_0, Z16_1, Z16_2, Z16_3, Z16_4, Y16_0, Y16_1, Y16_2, Y16_3, Y16_4⟩ := cf5 BK362) | ((with_reducible refine gC 25 rfl ?_); refine goesZ (some 9) rfl Try.func25 #[.agg #[.int .i64 a0_0, .int .i64 a0_1, .slice A0_2 l0_2.length c0_2, .slice A0_3 l0_3.length c0_3, .slice A0_4 l0_4.length c0_4], .int .i64 1048576] ?_; (with_reducible refine (laws_szDisk.calls k a0_0 a0_1 _ _ l0_2 _ _ l0_3 _ _ l0_4 1048576 t363 _ ?side1 ?side2 ?side3 ?side4 ?side5 ?side6 A2.out).mono ?_); (case side1 => exact ca (Kd.C_below HR0_2.out HB.out)); (case side2 => exact HC0_2.out); (case side3 => exact ca (Kd.C_below HR0_3.out HB.out)); (case side4 => exact HC0_3.out); (case side5 => exact ca (Kd.C_below HR0_4.out HB.out)); (case side6 => exact HC0_4.out); rintro e w17 ⟨rfl, hb⟩; refine ⟨_, rfl, ?_⟩; replace BK362 := bv BK362 hb; replace HB := bs (w := w) hb; (try clear hb); obtain ⟨Z18_0, Z18_1, Z18_2, Z18_3, Z18_4, Y18_0, Y18_1, Y18_2, Y18_3, Y18_4⟩ := cf5 BK362) | ((with_reducible refine gC 27 rfl ?_); refine goesZ (some 13) rfl Try.func27 #[.agg #[.int .i64 a0_0, .int .i64 a0_1, .slice A0_2 l0_2.length c0_2, .slice A0_3 l0_3.length c0_3, .slice A0_4 l0_4.length c0_4]] ?_; (with_reducible refine (laws_toDisk.calls k a0_0 a0_1 _ _ l0_2 _ _ l0_3 _ _ l0_4 t364 t365 t366 t369 t372 _ ?side1 ?side2 ?side3 ?side4 ?side5 ?side6 A7.out).mono ?_); (case side1 => exact ca (Kd.C_below HR0_2.out HB.out)); (case side2 => exact HC0_2.out); (case side3 => exact ca (Kd.C_below HR0_3.out HB.out)); (case side4 => exact HC0_3.out); (case side5 => exact ca (Kd.C_below HR0_4.out HB.out)); (case side6 => exact HC0_4.out); rintro e w19 ⟨v367, v370, v373, rfl, ho0, ho1, ho2, hb⟩; refine ⟨_, rfl, ?_⟩; have HO368 := Aside0.mk (Kd.R_lower ho0 (below_size bl)); have HO371 := Aside0.mk (Kd.R_lower ho1 (below_size bl)); have HO374 := Aside0.mk (Kd.R_lower ho2 (below_size bl)); replace BK362 := bv BK362 hb; replace HB := bs (w := w) hb; (try clear hb ho0 ho1 ho2); obtain ⟨Ao20, co20, rfl⟩ := Kd.R_slice HO368.out; obtain ⟨Ao21, co21, rfl⟩ := Kd.R_slice HO371.out; obtain ⟨Ao22, co22, rfl⟩ := Kd.R_slice HO374.out) | ((with_reducible refine gC 26 rfl ?_); refine goesZ (some 14) rfl Try.func26 #[.agg #[.int .i64 t364, .int .i64 t365, .slice Ao20 t366.length co20, .slice Ao21 t369.length co21, .slice Ao22 t372.length co22]] ?_; (with_reducible refine (spec_DiskOk.calls k t364 t365 _ _ t366 _ _ t369 _ _ t372 t375 _ ?side1 ?side2 ?side3 ?side4 ?side5 ?side6 A8.out).mono ?_); (case side1 => exact ca ((Kd.R_reads' HO368.out).2.2)); (case side2 => exact (Kd.R_reads' HO368.out).2.1); (case side3 => exact ca ((Kd.R_reads' HO371.out).2.2)); (case side4 => exact (Kd.R_reads' HO371.out).2.1); (case side5 => exact ca ((Kd.R_reads' HO374.out).2.2)); (case side6 => exact (Kd.R_reads' HO374.out).2.1); rintro e w23 ⟨rfl, hb⟩; refine ⟨_, rfl, ?_⟩; replace HO368 := Aside0.mk (Kd.R_below (rpR HO368.out) hb); replace HO371 := Aside0.mk (Kd.R_below (rpR HO371.out) hb); replace HO374 := Aside0.mk (Kd.R_below (rpR HO374.out) hb); replace BK362 := bv BK362 hb; replace HB := bs (w := w) hb; (try clear hb); obtain ⟨Z24_0, Z24_1, Z24_2, Z24_3, Z24_4, Y24_0, Y24_1, Y24_2, Y24_3, Y24_4⟩ := cf5 BK362) | ((with_reducible refine gC 27 rfl ?_); refine goesZ (some 16) rfl Try.func27 #[.agg #[.int .i64 a0_0, .int .i64 a0_1, .slice A0_2 l0_2.length c0_2, .slice A0_3 l0_3.length c0_3, .slice A0_4 l0_4.length c0_4]] ?_; (with_reducible refine (laws_toDisk.calls k a0_0 a0_1 _ _ l0_2 _ _ l0_3 _ _ l0_4 t376 t377 t378 t381 t384 _ ?side1 ?side2 ?side3 ?side4 ?side5 ?side6 A9.out).mono ?_); (case side1 => exact ca (Kd.C_below HR0_2.out HB.out)); (case side2 => exact HC0_2.out); (case side3 => exact ca (Kd.C_below HR0_3.out HB.out)); (case side4 => exact HC0_3.out); (case side5 => exact ca (Kd.C_below HR0_4.out HB.out)); (case side6 => exact HC0_4.out); rintro e w25 ⟨v379, v382, v385, rfl, ho0, ho1, ho2, hb⟩; refine ⟨_, rfl, ?_⟩; have HO380 := Aside0.mk (Kd.R_lower (Kd.R_new' ho0 (Kd.R_lt (rpR HO368.out))) (below_size bl)); replace HO368 := Aside0.mk (Kd.R_elder' (rpR HO368.out) (Kd.R_base ho0) hb); have HO383 := Aside0.mk (Kd.R_lower (Kd.R_new' ho1 (Kd.R_lt (rpR HO371.out))) (below_size bl)); replace HO371 := Aside0.mk (Kd.R_elder' (rpR HO371.out) (Kd.R_base ho1) hb); have HO386 := Aside0.mk (Kd.R_lower (Kd.R_new' ho2 (Kd.R_lt (rpR HO374.out))) (below_size bl)); replace HO374 := Aside0.mk (Kd.R_elder' (rpR HO374.out) (Kd.R_base ho2) hb); replace BK362 := bv BK362 hb; replace HB := bs (w := w) hb; (try clear hb ho0 ho1 ho2)) | ((with_reducible refine gD 5 rfl ?_); refine boxZ 5 #[.int .i64 0, .int .i64 0, .slice none 0 0, .slice none 0 0, .slice none 0 0] 26 ?_; intro gb387 hg w26 hbox hb; replace HO368 := Aside0.mk (Kd.R_below (rpR HO368.out) hb); replace HO371 := Aside0.mk (Kd.R_below (rpR HO371.out) hb); replace HO374 := Aside0.mk (Kd.R_below (rpR HO374.out) hb); replace HO380 := Aside0.mk (Kd.R_below (rpR HO380.out) hb); replace HO383 := Aside0.mk (Kd.R_below (rpR HO383.out) hb); replace HO386 := Aside0.mk (Kd.R_below (rpR HO386.out) hb); have BK387 := Aside0.mk hbox; have GW387 := gw (w := w) hg; have GE387 := gw (w := w) hg; replace HB := bs (w := w) hb; have NB362_387 := nl BK362 hg; have NB387_362 := nr BK362 hg; replace BK362 := bv BK362 hb; clear hb hbox hg; have hnb27 := NB387_362.out; have hnc27 := NB362_387.out; obtain ⟨Z28_0, Z28_1, Z28_2, Z28_3, Z28_4, Y28_0, Y28_1, Y28_2, Y28_3, Y28_4⟩ := cf5 BK387; obtain ⟨Ao29, co29, rfl⟩ := Kd.R_slice HO380.out; obtain ⟨Ao30, co30, rfl⟩ := Kd.R_slice HO383.out; obtain ⟨Ao31, co31, rfl⟩ := Kd.R_slice HO386.out) | ((with_reducible refine gate_store (t := 26) (p := 5) rfl ?_); refine store_event (t := 26) (p := 5) (v := ?vo_w32) (w1 := (((((w26.setCell ⟨gb387, 0, none⟩ (.int .i64 t376)).setCell ⟨gb387, 1, none⟩ (.int .i64 t377)).setCell ⟨gb387, 2, none⟩ (.slice Ao29 t378.length co29)).setCell ⟨gb387, 3, none⟩ (.slice Ao30 t381.length co30)).setCell ⟨gb387, 4, none⟩ (.slice Ao31 t384.length co31))) ?hg ?ho ?hn ?hr ?_; (case ho => rfl); (case hg => rfl); (case hn => rfl); (case hr => first | (go_simp; done) | (go_simp; rfl)); intro w32 hw; have n0_ : Aside0 (Kd.R k89 89 w32 w.heap.size (fun k_ => some k_ ≠ (.slice Ao29 t378.length co29 : Value).ownBlock) (.slice Ao20 t366.length co20) t366) := ⟨(by rw [hw]; exact (rpR (Kd.R_mono (Kd.R_far (p := ⟨gb387, 4, none⟩) (Kd.R_far (p := ⟨gb387, 3, none⟩) (Kd.R_far (p := ⟨gb387, 2, none⟩) (Kd.R_far (p := ⟨gb387, 1, none⟩) (Kd.R_far (p := ⟨gb387, 0, none⟩) (Kd.R_types HO368.out BK387.out (by decide)) (fun _ hk => hk.2) (.int .i64 t376)) (fun _ hk => hk.2) (.int .i64 t377)) (fun _ hk => hk.2) (.slice Ao29 t378.length co29)) (fun _ hk => hk.2) (.slice Ao30 t381.length co30)) (fun _ hk => hk.2) (.slice Ao31 t384.length co31)) (fun _ hk => hk.1.2))))⟩; have n1_ : Aside0 (Kd.R k93 93 w32 w.heap.size (fun k_ => some k_ ≠ (.slice Ao30 t381.length co30 : Value).ownBlock) (.slice Ao21 t369.length co21) t369) := ⟨(by rw [hw]; exact (rpR (Kd.R_mono (Kd.R_far (p := ⟨gb387, 4, none⟩) (Kd.R_far (p := ⟨gb387, 3, none⟩) (Kd.R_far (p := ⟨gb387, 2, none⟩) (Kd.R_far (p := ⟨gb387, 1, none⟩) (Kd.R_far (p := ⟨gb387, 0, none⟩) (Kd.R_types HO371.out BK387.out (by decide)) (fun _ hk => hk.2) (.int .i64 t376)) (fun _ hk => hk.2) (.int .i64 t377)) (fun _ hk => hk.2) (.slice Ao29 t378.length co29)) (fun _ hk => hk.2) (.slice Ao30 t381.length co30)) (fun _ hk => hk.2) (.slice Ao31 t384.length co31)) (fun _ hk => hk.1.2))))⟩; have n2_ : Aside0 (Kd.R k95 95 w32 w.heap.size (fun k_ => some k_ ≠ (.slice Ao31 t384.length co31 : Value).ownBlock) (.slice Ao22 t372.length co22) t372) := ⟨(by rw [hw]; exact (rpR (Kd.R_mono (Kd.R_far (p := ⟨gb387, 4, none⟩) (Kd.R_far (p := ⟨gb387, 3, none⟩) (Kd.R_far (p := ⟨gb387, 2, none⟩) (Kd.R_far (p := ⟨gb387, 1, none⟩) (Kd.R_far (p := ⟨gb387, 0, none⟩) (Kd.R_types HO374.out BK387.out (by decide)) (fun _ hk => hk.2) (.int .i64 t376)) (fun _ hk => hk.2) (.int .i64 t377)) (fun _ hk => hk.2) (.slice Ao29 t378.length co29)) (fun _ hk => hk.2) (.slice Ao30 t381.length co30)) (fun _ hk => hk.2) (.slice Ao31 t384.length co31)) (fun _ hk => hk.1.2))))⟩; have n3_ : Aside0 (Kd.R k89 89 w32 w.heap.size (fun k_ => some k_ ≠ (.slice Ao20 t366.length co20 : Value).ownBlock) (.slice Ao29 t378.length co29) t378) := ⟨(by rw [hw]; exact (rpR (Kd.R_mono (Kd.R_far (p := ⟨gb387, 4, none⟩) (Kd.R_far (p := ⟨gb387, 3, none⟩) (Kd.R_far (p := ⟨gb387, 2, none⟩) (Kd.R_far (p := ⟨gb387, 1, none⟩) (Kd.R_far (p := ⟨gb387, 0, none⟩) (Kd.R_types HO380.out BK387.out (by decide)) (fun _ hk => hk.2) (.int .i64 t376)) (fun _ hk => hk.2) (.int .i64 t377)) (fun _ hk => hk.2) (.slice Ao29 t378.length co29)) (fun _ hk => hk.2) (.slice Ao30 t381.length co30)) (fun _ hk => hk.2) (.slice Ao31 t384.length co31)) (fun _ hk => hk.1.2))))⟩; have n4_ : Aside0 (Kd.R k93 93 w32 w.heap.size (fun k_ => some k_ ≠ (.slice Ao21 t369.length co21 : Value).ownBlock) (.slice Ao30 t381.length co30) t381) := ⟨(by rw [hw]; exact (rpR (Kd.R_mono (Kd.R_far (p := ⟨gb387, 4, none⟩) (Kd.R_far (p := ⟨gb387, 3, none⟩) (Kd.R_far (p := ⟨gb387, 2, none⟩) (Kd.R_far (p := ⟨gb387, 1, none⟩) (Kd.R_far (p := ⟨gb387, 0, none⟩) (Kd.R_types HO383.out BK387.out (by decide)) (fun _ hk => hk.2) (.int .i64 t376)) (fun _ hk => hk.2) (.int .i64 t377)) (fun _ hk => hk.2) (.slice Ao29 t378.length co29)) (fun _ hk => hk.2) (.slice Ao30 t381.length co30)) (fun _ hk => hk.2) (.slice Ao31 t384.length co31)) (fun _ hk => hk.1.2))))⟩; have n5_ : Aside0 (Kd.R k95 95 w32 w.heap.size (fun k_ => some k_ ≠ (.slice Ao22 t372.length co22 : Value).ownBlock) (.slice Ao31 t384.length co31) t384) := ⟨(by rw [hw]; exact (rpR (Kd.R_mono (Kd.R_far (p := ⟨gb387, 4, none⟩) (Kd.R_far (p := ⟨gb387, 3, none⟩) (Kd.R_far (p := ⟨gb387, 2, none⟩) (Kd.R_far (p := ⟨gb387, 1, none⟩) (Kd.R_far (p := ⟨gb387, 0, none⟩) (Kd.R_types HO386.out BK387.out (by decide)) (fun _ hk => hk.2) (.int .i64 t376)) (fun _ hk => hk.2) (.int .i64 t377)) (fun _ hk => hk.2) (.slice Ao29 t378.length co29)) (fun _ hk => hk.2) (.slice Ao30 t381.length co30)) (fun _ hk => hk.2) (.slice Ao31 t384.length co31)) (fun _ hk => hk.1.2))))⟩; have n6_ : Aside0 (w32.heap[gb362]? = some (.cells #[.int .i64 a0_0, .int .i64 a0_1, .slice A0_2 l0_2.length c0_2, .slice A0_3 l0_3.length c0_3, .slice A0_4 l0_4.length c0_4] 44 (0, 0))) := ⟨(by rw [hw]; exact bkk)⟩; have n7_ : Aside0 (w32.heap[gb387]? = some (.cells #[.int .i64 t376, .int .i64 t377, .slice Ao29 t378.length co29, .slice Ao30 t381.length co30, .slice Ao31 t384.length co31] 26 (0, 0))) := ⟨(by rw [hw]; exact bkk)⟩; have n8_ : Aside0 (Below w.heap.size w w32) := ⟨(by rw [hw]; exact bl)⟩; clear hw; clear HO368; clear HO371; clear HO374; clear HO380; clear HO383; clear HO386; clear BK362; clear BK387; clear HB; have HO368 := n0_; have HO371 := n1_; have HO374 := n2_; have HO380 := n3_; have HO383 := n4_; have HO386 := n5_; have BK362 := n6_; have BK387 := n7_; have HB := n8_; clear n0_ n1_ n2_ n3_ n4_ n5_ n6_ n7_ n8_; obtain ⟨Z33_0, Z33_1, Z33_2, Z33_3, Z33_4, Y33_0, Y33_1, Y33_2, Y33_3, Y33_4⟩ := cf5 BK387) | ((with_reducible refine gC 28 rfl ?_); refine goesZ (some 18) rfl Try.func28 #[.agg #[.int .i64 t376, .int .i64 t377, .slice Ao29 t378.length co29, .slice Ao30 t381.length co30, .slice Ao31 t384.length co31]] ?_; (with_reducible refine (impl_DiskOk.calls k t376 t377 _ _ t378 (fun k_ => some k_ = (.slice Ao30 t381.length co30 : Value).ownBlock) _ _ t381 _ _ t384 t388 _ ?side1 ?side2 ?side3 ?side4 ?side5 A10.out).mono ?_); (case side1 => exact ca ((Kd.R_reads' HO380.out).2.2)); (case side2 => exact (Kd.R_reads' HO380.out).2.1); (case side3 => exact Kd.R_V (Kd.R_tight rfl (Kd.R_types (Kd.R_types (Kd.R_apart' (Kd.R_apart' (Kd.R_apart' (Kd.R_apart' (HO383.out) (Kd.R_typed HO368.out) (by decide)) (Kd.R_typed HO374.out) (by decide)) (Kd.R_typed HO380.out) (by decide)) (Kd.R_typed HO386.out) (by decide)) BK362.out (by decide)) BK387.out (by decide)))); (case side4 => exact ca ((Kd.R_reads' HO386.out).2.2)); (case side5 => exact (Kd.R_reads' HO386.out).2.1); rintro e w34 ⟨rfl, hb⟩; refine ⟨_, rfl, ?_⟩; replace HO368 := Aside0.mk (Kd.R_below (rpR HO368.out) hb); replace HO371 := Aside0.mk (Kd.R_below (rpR HO371.out) hb); replace HO374 := Aside0.mk (Kd.R_below (rpR HO374.out) hb); replace HO380 := Aside0.mk (Kd.R_below (rpR HO380.out) hb); replace HO383 := Aside0.mk (Kd.R_below (rpR HO383.out) hb); replace HO386 := Aside0.mk (Kd.R_below (rpR HO386.out) hb); replace BK362 := bv BK362 hb; replace BK387 := bv BK387 hb; replace HB := bs (w := w) hb; (try clear hb)))
    replace HO368 := Aside0.mk (Kd.R_drew HO368.out); replace HO371 := Aside0.mk (Kd.R_drew HO371.out); replace HO374 := Aside0.mk (Kd.R_drew HO374.out); replace HO380 := Aside0.mk (Kd.R_drew HO380.out); replace HO383 := Aside0.mk (Kd.R_drew HO383.out); replace HO386 := Aside0.mk (Kd.R_drew HO386.out); replace BK362 := Aside0.mk (blk_drew BK362.out); replace BK387 := Aside0.mk (blk_drew BK387.out); replace HB := Aside0.mk (below_drew1 HB.out)
    refine start_ (n := 5) (S := fun w' => w'.cell? ⟨gb387, 0, none⟩ = some (.int .i64 t376) ∧ w'.cell? ⟨gb387, 1, none⟩ = some (.int .i64 t377) ∧ w'.cell? ⟨gb387, 2, none⟩ = some (.slice Ao29 t378.length co29) ∧ w'.cell? ⟨gb387, 3, none⟩ = some (.slice Ao30 t381.length co30) ∧ w'.cell? ⟨gb387, 4, none⟩ = some (.slice Ao31 t384.length co31) ∧ w'.cell? ⟨gb362, 0, none⟩ = some (.int .i64 a0_0) ∧ w'.cell? ⟨gb362, 1, none⟩ = some (.int .i64 a0_1) ∧ w'.cell? ⟨gb362, 2, none⟩ = some (.slice A0_2 l0_2.length c0_2) ∧ w'.cell? ⟨gb362, 3, none⟩ = some (.slice A0_3 l0_3.length c0_3) ∧ w'.cell? ⟨gb362, 4, none⟩ = some (.slice A0_4 l0_4.length c0_4)) (ds := []) #[false, false, false, false, false] (by kernel_rfl) rfl rfl ⟨cb 0 BK387, cb 1 BK387, cb 2 BK387, cb 3 BK387, cb 4 BK387, cb 0 BK362, cb 1 BK362, cb 2 BK362, cb 3 BK362, cb 4 BK362⟩ (fun hHeld => ?_)
    generalize w34.drew = w35 at HO368 HO371 HO374 HO380 HO383 HO386 BK362 BK387 HB hHeld ⊢
    refine tV 0 22 #[true, false, false, false, false] ?_
    refine tV 1 23 #[true, true, false, false, false] ?_
    refine one_ (i := 2) (N := some 24) #[true, true, true, false, false] rfl rfl (by kernel_rfl) (by decide) (fun K hK => ?_)
    refine goes_ Try.func27 (by kernel_rfl) rfl #[.agg #[.int .i64 a0_0, .int .i64 a0_1, .slice A0_2 l0_2.length c0_2, .slice A0_3 l0_3.length c0_3, .slice A0_4 l0_4.length c0_4]] (by rfl) rfl rfl sa ?_
    with_reducible refine (laws_toDisk.calls k a0_0 a0_1 _ _ l0_2 _ _ l0_3 _ _ l0_4 t389 t390 t391 t394 t397 _ ?side1 ?side2 ?side3 ?side4 ?side5 ?side6 A12.out).mono ?_
    (case side1 => exact ca (Kd.C_below HR0_2.out HB.out))
    (case side2 => exact HC0_2.out)
    (case side3 => exact ca (Kd.C_below HR0_3.out HB.out))
    (case side4 => exact HC0_3.out)
    (case side5 => exact ca (Kd.C_below HR0_4.out HB.out))
    (case side6 => exact HC0_4.out)
    rintro e w36 ⟨v392, v395, v398, rfl, ho0, ho1, ho2, hb⟩
    refine ⟨_, rfl, ?_⟩
    have HO393 := Aside0.mk (Kd.R_lower (Kd.R_new' (Kd.R_new' ho0 (Kd.R_lt (rpR HO368.out))) (Kd.R_lt (rpR HO380.out))) (below_size bl)); replace HO368 := Aside0.mk (Kd.R_elder' (rpR HO368.out) (Kd.R_base ho0) hb); replace HO380 := Aside0.mk (Kd.R_elder' (rpR HO380.out) (Kd.R_base ho0) hb); have HO396 := Aside0.mk (Kd.R_lower (Kd.R_new' (Kd.R_new' ho1 (Kd.R_lt (rpR HO371.out))) (Kd.R_lt (rpR HO383.out))) (below_size bl)); replace HO371 := Aside0.mk (Kd.R_elder' (rpR HO371.out) (Kd.R_base ho1) hb); replace HO383 := Aside0.mk (Kd.R_elder' (rpR HO383.out) (Kd.R_base ho1) hb); have HO399 := Aside0.mk (Kd.R_lower (Kd.R_new' (Kd.R_new' ho2 (Kd.R_lt (rpR HO374.out))) (Kd.R_lt (rpR HO386.out))) (below_size bl)); replace HO374 := Aside0.mk (Kd.R_elder' (rpR HO374.out) (Kd.R_base ho2) hb); replace HO386 := Aside0.mk (Kd.R_elder' (rpR HO386.out) (Kd.R_base ho2) hb); replace BK362 := bv BK362 hb; replace BK387 := bv BK387 hb; replace HB := bs (w := w) hb; (try clear hb hb2 hk hi ho0 ho1 ho2)
    obtain ⟨Ao37, co37, eo37⟩ := Kd.R_slice HO393.out
    (first | subst eo37 | (injection eo37 with f1_ f2_ f3_; have f4_ := f1_.symm; have f5_ := f3_.symm; clear f1_ f2_ f3_; subst f4_; subst f5_))
    obtain ⟨Ao38, co38, eo38⟩ := Kd.R_slice HO396.out
    (first | subst eo38 | (injection eo38 with f1_ f2_ f3_; have f4_ := f1_.symm; have f5_ := f3_.symm; clear f1_ f2_ f3_; subst f4_; subst f5_))
    obtain ⟨Ao39, co39, eo39⟩ := Kd.R_slice HO399.out
    (first | subst eo39 | (injection eo39 with f1_ f2_ f3_; have f4_ := f1_.symm; have f5_ := f3_.symm; clear f1_ f2_ f3_; subst f4_; subst f5_))
    refine hK.out _ _ ⟨cb 0 BK387, cb 1 BK387, cb 2 BK387, cb 3 BK387, cb 4 BK387, cb 0 BK362, cb 1 BK362, cb 2 BK362, cb 3 BK362, cb 4 BK362⟩ (fun hHeld => ?_)
    clear hK K
    refine norm_ (a' := ?_) ?_ ?_
    rotate_left
    ·show Act.put _ (some 24) _ = _
     simp only [Act.put, List.setIfInBounds_toArray, List.set_cons_zero, List.set_cons_succ, i64_w, i32_w]
     rfl
    refine one_ (i := 3) (N := some 25) #[true, true, true, true, false] rfl rfl (by kernel_rfl) (by decide) (fun K hK => ?_)
    refine goes_ Try.func17 (by kernel_rfl) rfl #[.agg #[.int .i64 t376, .int .i64 t377, .slice Ao29 t378.length co29, .slice Ao30 t381.length co30, .slice Ao31 t384.length co31], .agg #[.int .i64 t389, .int .i64 t390, .slice Ao37 t391.length co37, .slice Ao38 t394.length co38, .slice Ao39 t397.length co39]] (by rfl) rfl rfl sa ?_
    with_reducible refine (laws_eqDisk.calls k t376 t377 _ _ t378 _ _ t381 _ _ t384 t389 t390 _ _ t391 _ _ t394 _ _ t397 true _ ?side1 ?side2 ?side3 ?side4 ?side5 ?side6 ?side7 ?side8 ?side9 ?side10 ?side11 ?side12 A13.out).mono ?_
    (case side1 => exact ca ((Kd.R_reads' HO380.out).2.2))
    (case side2 => exact (Kd.R_reads' HO380.out).2.1)
    (case side3 => exact ca ((Kd.R_reads' HO383.out).2.2))
    (case side4 => exact (Kd.R_reads' HO383.out).2.1)
    (case side5 => exact ca ((Kd.R_reads' HO386.out).2.2))
    (case side6 => exact (Kd.R_reads' HO386.out).2.1)
    (case side7 => exact ca ((Kd.R_reads' HO393.out).2.2))
    (case side8 => exact (Kd.R_reads' HO393.out).2.1)
    (case side9 => exact ca ((Kd.R_reads' HO396.out).2.2))
    (case side10 => exact (Kd.R_reads' HO396.out).2.1)
    (case side11 => exact ca ((Kd.R_reads' HO399.out).2.2))
    (case side12 => exact (Kd.R_reads' HO399.out).2.1)
    rintro e w40 ⟨rfl, hb⟩
    refine ⟨_, rfl, ?_⟩
    replace HO368 := Aside0.mk (Kd.R_below (rpR HO368.out) hb); replace HO371 := Aside0.mk (Kd.R_below (rpR HO371.out) hb); replace HO374 := Aside0.mk (Kd.R_below (rpR HO374.out) hb); replace HO380 := Aside0.mk (Kd.R_below (rpR HO380.out) hb); replace HO383 := Aside0.mk (Kd.R_below (rpR HO383.out) hb); replace HO386 := Aside0.mk (Kd.R_below (rpR HO386.out) hb); replace HO393 := Aside0.mk (Kd.R_below (rpR HO393.out) hb); replace HO396 := Aside0.mk (Kd.R_below (rpR HO396.out) hb); replace HO399 := Aside0.mk (Kd.R_below (rpR HO399.out) hb); replace BK362 := bv BK362 hb; replace BK387 := bv BK387 hb; replace HB := bs (w := w) hb; (try clear hb hb2 hk hi)
    refine hK.out _ _ ⟨cb 0 BK387, cb 1 BK387, cb 2 BK387, cb 3 BK387, cb 4 BK387, cb 0 BK362, cb 1 BK362, cb 2 BK362, cb 3 BK362, cb 4 BK362⟩ (fun hHeld => ?_)
    clear hK K
    refine norm_ (a' := ?_) ?_ ?_
    rotate_left
    ·show Act.put _ (some 25) _ = _
     simp only [Act.put, List.setIfInBounds_toArray, List.set_cons_zero, List.set_cons_succ, i64_w, i32_w]
     rfl
    refine pV 4 26 #[true, true, true, true, true] ?_
    refine done_ (by kernel_rfl) ?_
    try go_wp2
    go_ret
    exact ⟨fe, bl⟩
   ·replace c14 := Bool.eq_false_iff.mpr c14
    subst c14
    replace H := iF H
    exact absurd ((Option.some.inj H).trans hr_) (by decide)
end Go.Proofs.Ytjcmcamijaelbaa.PFnExactDiskOk
