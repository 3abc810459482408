/- Functions of the program, each with its contract, written by a program out of the translation. -/
import Derived.Test.YtjcmcamijaelbaaPDiskx0
import Derived.Test.YtjcmcamijaelbaaPDiskx9
import Derived.Test.YtjcmcamijaelbaaPDiskxH
import Derived.Test.YtjcmcamijaelbaaZip
namespace Go.Proofs.Ytjcmcamijaelbaa.PDisk
open Go.RowKit Go.Proofs.YtjcmcamijaelbaaW.PrintWords Go.Proofs.YtjcmcamijaelbaaW.PrintLast Go.Proofs.YtjcmcamijaelbaaW.PrintMore Go.Proofs.Ytjcmcamijaelbaa.Zip
attribute [local go_sem] max2_int min2_int max_two min_two max_three min_three max_four min_four   -- for this text's walks alone
set_option linter.unusedVariables false
set_option linter.unusedSimpArgs false
/-! ### impl_applied: function 89 -/
def impl_applied.j0 : Nat → List (S93) → Int → Bool → Int → ByteArray → ByteArray → Int → Option ((List (S93)) × Bool)
 | 0, _, _, _, _, _, _, _ => none
 | k + 1, x0, x6, x54, x313000, x313001, x313002, x313003 => if x54 = true then (some (([] : List (S93)), false)) else ((impl_unlinked.f x0 x313001).bind fun t319 => (if 0 ≤ x6 then (if x6 < (x0.length : Int) then ((impl_linked.f t319 x313002 ((rd_T93 x0 x6).f1)).bind fun t323 => (some (t323, true))) else (none)) else (none)))
def impl_applied.f (k : Nat) (l0 : List (S93)) (a1_0 : Int) (a1_1 : ByteArray) (a1_2 : ByteArray) (a1_3 : Int) : Option ((List (S93)) × Bool) := (impl_linkAt.f l0 a1_1).bind fun bt313 => (if a1_0 = 1 then ((impl_linked.f l0 a1_1 a1_3).bind fun t315 => (if bt313.2 = true then (some (t315, false)) else (some (t315, (a1_2.toList == ([] : List UInt8)))))) else (if a1_0 = 2 then (if bt313.2 = true then (if a1_3 = 0 then ((impl_nameOk.f k a1_2).bind fun t318 => (if t318 = true then (impl_applied.j0 k l0 bt313.1 (a1_2.toList == a1_1.toList) a1_0 a1_1 a1_2 a1_3) else (impl_applied.j0 k l0 bt313.1 true a1_0 a1_1 a1_2 a1_3))) else (impl_applied.j0 k l0 bt313.1 true a1_0 a1_1 a1_2 a1_3)) else (impl_applied.j0 k l0 bt313.1 true a1_0 a1_1 a1_2 a1_3)) else (if a1_0 = 3 then ((impl_unlinked.f l0 a1_1).bind fun t326 => (if bt313.2 = true then (if a1_2.toList = ([] : List UInt8) then (some (t326, (a1_3 == 0))) else (some (t326, false))) else (some (t326, false)))) else (some (([] : List (S93)), false)))))
theorem impl_applied.mono_l : ∀ k, (∀ y0 y1 y2 y3 y4 y5 y6, LeO (impl_applied.j0 k y0 y1 y2 y3 y4 y5 y6) (impl_applied.j0 (k + 1) y0 y1 y2 y3 y4 y5 y6))
 | 0 => fun _ _ _ _ _ _ _ r h => by simp [impl_applied.j0] at h
 | k + 1 => by
  have ih0 := impl_applied.mono_l k
  ·intro y0 y1 y2 y3 y4 y5 y6
   unfold impl_applied.j0
   repeat' first
   | (with_reducible exact ih0 _ _ _ _ _ _ _)
   | (with_reducible exact impl_nameOk.mono _ _)
   | (with_reducible exact LeO.refl _)
   | (with_reducible exact LeO.none _)
   | (with_reducible refine LeO.ite ?_ ?_)
   | (with_reducible refine LeO.bind ?_ (fun _ => ?_))
   | exact ih0 _ _ _ _ _ _ _
   | exact impl_nameOk.mono _ _
   | exact LeO.none _
   | refine LeO.ite ?_ ?_
   | refine LeO.bind ?_ (fun _ => ?_)
theorem impl_applied.mono : ∀ a0 a1 a2 a3 a4 k, LeO (impl_applied.f k a0 a1 a2 a3 a4) (impl_applied.f (k + 1) a0 a1 a2 a3 a4) := by
 intro a0 a1 a2 a3 a4 k
 have ih0 := impl_applied.mono_l k
 unfold impl_applied.f
 repeat' first
  | (with_reducible exact ih0 _ _ _ _ _ _ _)
  | (with_reducible exact impl_nameOk.mono _ _)
  | (with_reducible exact LeO.refl _)
  | (with_reducible exact LeO.none _)
  | (with_reducible refine LeO.ite ?_ ?_)
  | (with_reducible refine LeO.bind ?_ (fun _ => ?_))
  | exact ih0 _ _ _ _ _ _ _
  | exact impl_nameOk.mono _ _
  | exact LeO.none _
  | refine LeO.ite ?_ ?_
  | refine LeO.bind ?_ (fun _ => ?_)
def impl_applied.T4 : Bool × List (List Nat × List Nat) := (true, [([], []), ([], []), ([1], [1]), ([], []), ([3], [3]), ([2, 4], [2, 4]), ([0, 5], [0, 5]), ([], []), ([7], [7]), ([8, 6], [8]), ([9], [9]), ([10, 9], [9, 10]), ([11, 9], [9, 11]), ([9, 12], [9, 12]), ([6, 9, 0, 1, 2, 3, 4, 5, 6], [6]), ([13, 14, 0, 1, 2, 3, 4, 5, 6, 7, 8, 9, 10, 11, 12, 13, 14], [13])])
def impl_applied.B4 : List Nat := [0, 0, 2, 0, 8, 30, 63, 0, 128, 511, 1023, 2047, 4095, 8191, 1023, 32767]
theorem impl_applied.tab4 : rtab .any (opsOf Try.f89 4) = impl_applied.T4 := by kernel_rfl
theorem impl_applied.bits4 : waitsOk impl_applied.T4.2 impl_applied.B4 = true := by kernel_rfl
def impl_applied.T8 : Bool × List (List Nat × List Nat) := (true, [([], []), ([], []), ([1], [1]), ([0, 2], [0, 2]), ([], []), ([4], [4]), ([], []), ([], []), ([6, 7], [6, 7]), ([8], [8]), ([9], [9]), ([5, 10], [5, 10]), ([3, 11, 3], [3, 11]), ([12, 12, 0, 1, 2, 3, 4, 5, 6, 7, 8, 9, 10, 11, 12], [12]), ([13, 0, 1, 2, 3, 4, 5, 6, 7, 8, 9, 10, 11, 12, 13], [])])
def impl_applied.B8 : List Nat := [0, 0, 2, 7, 0, 16, 0, 0, 192, 448, 960, 2032, 4095, 8191, 16383]
theorem impl_applied.tab8 : rtab .any (opsOf Try.f89 8) = impl_applied.T8 := by kernel_rfl
theorem impl_applied.bits8 : waitsOk impl_applied.T8.2 impl_applied.B8 = true := by kernel_rfl
def impl_applied.T10 : Bool × List (List Nat × List Nat) := (true, [([], []), ([], []), ([1], [1]), ([0, 2], [0, 2]), ([], []), ([4, 3], [4]), ([5], [5]), ([6, 5], [5, 6]), ([7, 5], [5, 7]), ([5, 8], [5, 8]), ([9, 5], [9]), ([10], [10]), ([11, 10], [10, 11]), ([12, 10], [10, 12]), ([10, 13], [10, 13]), ([3, 10, 0, 1, 2, 3], [3]), ([14, 15, 0, 1, 2, 3, 4, 5, 6, 7, 8, 9, 10, 11, 12, 13, 14, 15], [14])])
def impl_applied.B10 : List Nat := [0, 0, 2, 7, 0, 31, 63, 127, 255, 511, 1023, 2047, 4095, 8191, 16383, 2047, 65535]
theorem impl_applied.tab10 : rtab .any (opsOf Try.f89 10) = impl_applied.T10 := by kernel_rfl
theorem impl_applied.bits10 : waitsOk impl_applied.T10.2 impl_applied.B10 = true := by kernel_rfl
set_option maxHeartbeats 8000000 in
set_option maxRecDepth 100000 in
theorem impl_applied.calls (k : Nat) (A0 : Option Addr) (c0 : Nat) (l0 : List (S93)) (a1_0 : Int) (a1_1 : ByteArray) (a1_2 : ByteArray) (a1_3 : Int) (r1 : List (S93)) (r2 : Bool) (w : World) (hr0 : Kd.C k93 w A0 l0.length l0) (hc0 : l0.length ≤ c0) (h : impl_applied.f k l0 a1_0 a1_1 a1_2 a1_3 = some (r1, r2)) :
 Calls Try.prog 89 #[.slice A0 l0.length c0, .agg #[.int .i64 a1_0, .string a1_1, .string a1_2, .int .i64 a1_3]] w fun e w' => ∃ v0_ : Value, e = .returned (.tuple #[v0_, .bool r2]) ∧ Kd.R k93 93 w' w.heap.size (fun _ => True) v0_ r1 ∧ Below w.heap.size w w' := by
 have hu95 := Try.underlying95
 have hu93 := Try.underlying93
 have HR0 := Aside0.mk hr0
 have HC0 := Aside0.mk hc0
 clear hr0 hc0
 have HB := Aside0.mk (Below.refl w.heap.size w)
 have H : ((impl_linkAt.f l0 a1_1).bind fun bt313 => (if a1_0 = 1 then ((impl_linked.f l0 a1_1 a1_3).bind fun t315 => (if bt313.2 = true then (some (t315, false)) else (some (t315, (a1_2.toList == ([] : List UInt8)))))) else (if a1_0 = 2 then (if bt313.2 = true then (if a1_3 = 0 then ((impl_nameOk.f k a1_2).bind fun t318 => (if t318 = true then (impl_applied.j0 k l0 bt313.1 (a1_2.toList == a1_1.toList) a1_0 a1_1 a1_2 a1_3) else (impl_applied.j0 k l0 bt313.1 true a1_0 a1_1 a1_2 a1_3))) else (impl_applied.j0 k l0 bt313.1 true a1_0 a1_1 a1_2 a1_3)) else (impl_applied.j0 k l0 bt313.1 true a1_0 a1_1 a1_2 a1_3)) else (if a1_0 = 3 then ((impl_unlinked.f l0 a1_1).bind fun t326 => (if bt313.2 = true then (if a1_2.toList = ([] : List UInt8) then (some (t326, (a1_3 == 0))) else (some (t326, false))) else (some (t326, false)))) else (some (([] : List (S93)), false)))))) = some (r1, r2) := h
 clear h
 replace H := Option.bind_eq_some_iff.mp H
 obtain ⟨⟨t313, t314⟩, A30, H⟩ := H
 replace H : (if a1_0 = 1 then ((impl_linked.f l0 a1_1 a1_3).bind fun t315 => (if t314 = true then (some (t315, false)) else (some (t315, (a1_2.toList == ([] : List UInt8)))))) else (if a1_0 = 2 then (if t314 = true then (if a1_3 = 0 then ((impl_nameOk.f k a1_2).bind fun t318 => (if t318 = true then (impl_applied.j0 k l0 t313 (a1_2.toList == a1_1.toList) a1_0 a1_1 a1_2 a1_3) else (impl_applied.j0 k l0 t313 true a1_0 a1_1 a1_2 a1_3))) else (impl_applied.j0 k l0 t313 true a1_0 a1_1 a1_2 a1_3)) else (impl_applied.j0 k l0 t313 true a1_0 a1_1 a1_2 a1_3)) else (if a1_0 = 3 then ((impl_unlinked.f l0 a1_1).bind fun t326 => (if t314 = true then (if a1_2.toList = ([] : List UInt8) then (some (t326, (a1_3 == 0))) else (some (t326, false))) else (some (t326, false)))) else (some (([] : List (S93)), false))))) = some (r1, r2) := H
 have A3 := Aside0.mk A30
 clear A30
 by_cases c4 : a1_0 = 1
 ·rw [if_pos c4] at H
  have c4b0 : (a1_0 == 1) = true := beq_iff_eq.mpr c4
  have c4b1 : (a1_0 != 1) = false := bne_eq_false_iff_eq.mpr c4
  clear c4
  obtain ⟨t315, A5, H⟩ := bd H
  by_cases c6 : t314 = true
  ·subst c6
   replace H := iT H
   simp only [Option.some.injEq, Prod.mk.injEq] at H
   obtain ⟨rfl, rfl⟩ := H
   go_enter Try.func89, Try.ntmps89
   try go_wp2_with (first | ((with_reducible refine gD 3 rfl ?_); refine boxZ 3 #[.int .i64 a1_0, .string a1_1, .string a1_2, .int .i64 a1_3] 95 ?_; intro gb312 hg w7 hbox hb; have BK312 := Aside0.mk hbox; have GW312 := gw (w := w) hg; have GE312 := gw (w := w) hg; replace HB := bs (w := w) hb; clear hb hbox hg; obtain ⟨Z8_0, Z8_1, Z8_2, Z8_3, Y8_0, Y8_1, Y8_2, Y8_3⟩ := cf4 BK312) | ((with_reducible refine gC 135 rfl ?_); refine goesZ (some 12) rfl Try.func135 #[.slice A0 l0.length c0, .string a1_1] ?_; (with_reducible refine (impl_linkAt.calls _ _ l0 a1_1 t313 true _ ?side1 ?side2 A3.out).mono ?_); (case side1 => exact ca (Kd.C_below HR0.out HB.out)); (case side2 => exact HC0.out); rintro e w9 ⟨rfl, hb⟩; refine ⟨_, rfl, ?_⟩; replace BK312 := bv BK312 hb; replace HB := bs (w := w) hb; (try clear hb); obtain ⟨Z10_0, Z10_1, Z10_2, Z10_3, Y10_0, Y10_1, Y10_2, Y10_3⟩ := cf4 BK312))
   replace BK312 := Aside0.mk (blk_drew BK312.out); replace HB := Aside0.mk (below_drew1 HB.out)
   refine start_ (n := 16) (S := fun w' => w'.cell? ⟨gb312, 0, none⟩ = some (.int .i64 a1_0) ∧ w'.cell? ⟨gb312, 1, none⟩ = some (.string a1_1) ∧ w'.cell? ⟨gb312, 2, none⟩ = some (.string a1_2) ∧ w'.cell? ⟨gb312, 3, none⟩ = some (.int .i64 a1_3)) (ds := []) (bo 16 0) (by kernel_rfl) rfl rfl ⟨cb 0 BK312, cb 1 BK312, cb 2 BK312, cb 3 BK312⟩ (fun hHeld => ?_); refine with_tabW impl_applied.tab4 impl_applied.bits4 (fun HT_ HW_ => ?_)
   generalize w9.drew = w11 at BK312 HB hHeld ⊢
   refine pV 0 19 (bo 16 1) ?_
   refine pV 1 20 (bo 16 3) ?_
   refine pV 3 22 (bo 16 11) ?_
   refine pV 7 26 (bo 16 139) ?_
   refine pV 8 27 (bo 16 395) ?_
   refine tV 2 21 (bo 16 399) ?_
   refine tV 4 23 (bo 16 415) ?_
   refine pV 5 24 (bo 16 447) ?_
   refine one_ (i := 6) (N := some 25) (bo 16 511) rfl rfl (one_of HT_.out (by kernel_rfl)) (by decide) (fun K hK => ?_)
   refine goes_ Try.func136 (by kernel_rfl) rfl #[.slice A0 l0.length c0, .agg #[.string a1_1, .int .i64 a1_3]] (by rfl) rfl rfl sa ?_
   with_reducible refine (impl_linked.calls _ _ l0 a1_1 a1_3 t315 _ ?side1 ?side2 A5.out).mono ?_
   (case side1 => exact ca (Kd.C_below HR0.out HB.out))
   (case side2 => exact HC0.out)
   rintro e w12 ⟨v316, rfl, ho0, hb⟩
   refine ⟨_, rfl, ?_⟩
   have HO317 := Aside0.mk (Kd.R_lower ho0 (below_size bl)); replace BK312 := bv BK312 hb; replace HB := bs (w := w) hb; (try clear hb hb2 hk hi ho0)
   refine hK.out _ _ ⟨cb 0 BK312, cb 1 BK312, cb 2 BK312, cb 3 BK312⟩ (fun hHeld => ?_)
   clear hK K
   refine norm_ (a' := ?_) ?_ ?_
   rotate_left
   ·show Act.put _ (some 25) _ = _
    simp only [Act.put, List.setIfInBounds_toArray, List.set_cons_zero, List.set_cons_succ, i64_w, i32_w]
    rfl
   refine pV 9 28 (bo 16 1023) ?_
   refine pU 10 29 (bo 16 2047) ?_
   refine pU 11 30 (bo 16 4095) ?_
   refine pU 12 31 (bo 16 8191) ?_
   refine pV 13 32 (bo 16 16383) ?_
   refine pV 14 4 (bo 16 32767) ?_
   refine pV 15 5 (bo 16 65535) ?_
   refine done_ (done_of HT_.out (by kernel_rfl)) ?_
   try go_wp2
   go_ret2
   exact ⟨_, fe, rpR HO317.out, bl⟩
  ·replace c6 := Bool.eq_false_iff.mpr c6
   subst c6
   replace H := iF H
   simp only [Option.some.injEq, Prod.mk.injEq] at H
   obtain ⟨rfl, rfl⟩ := H
   go_enter Try.func89, Try.ntmps89
   try go_wp2_with (first | ((with_reducible refine gD 3 rfl ?_); refine boxZ 3 #[.int .i64 a1_0, .string a1_1, .string a1_2, .int .i64 a1_3] 95 ?_; intro gb312 hg w13 hbox hb; have BK312 := Aside0.mk hbox; have GW312 := gw (w := w) hg; have GE312 := gw (w := w) hg; replace HB := bs (w := w) hb; clear hb hbox hg; obtain ⟨Z14_0, Z14_1, Z14_2, Z14_3, Y14_0, Y14_1, Y14_2, Y14_3⟩ := cf4 BK312) | ((with_reducible refine gC 135 rfl ?_); refine goesZ (some 12) rfl Try.func135 #[.slice A0 l0.length c0, .string a1_1] ?_; (with_reducible refine (impl_linkAt.calls _ _ l0 a1_1 t313 false _ ?side1 ?side2 A3.out).mono ?_); (case side1 => exact ca (Kd.C_below HR0.out HB.out)); (case side2 => exact HC0.out); rintro e w15 ⟨rfl, hb⟩; refine ⟨_, rfl, ?_⟩; replace BK312 := bv BK312 hb; replace HB := bs (w := w) hb; (try clear hb); obtain ⟨Z16_0, Z16_1, Z16_2, Z16_3, Y16_0, Y16_1, Y16_2, Y16_3⟩ := cf4 BK312))
   replace BK312 := Aside0.mk (blk_drew BK312.out); replace HB := Aside0.mk (below_drew1 HB.out)
   refine start_ (n := 16) (S := fun w' => w'.cell? ⟨gb312, 0, none⟩ = some (.int .i64 a1_0) ∧ w'.cell? ⟨gb312, 1, none⟩ = some (.string a1_1) ∧ w'.cell? ⟨gb312, 2, none⟩ = some (.string a1_2) ∧ w'.cell? ⟨gb312, 3, none⟩ = some (.int .i64 a1_3)) (ds := []) (bo 16 0) (by kernel_rfl) rfl rfl ⟨cb 0 BK312, cb 1 BK312, cb 2 BK312, cb 3 BK312⟩ (fun hHeld => ?_); refine with_tabW impl_applied.tab4 impl_applied.bits4 (fun HT_ HW_ => ?_)
   generalize w15.drew = w17 at BK312 HB hHeld ⊢
   refine pV 0 19 (bo 16 1) ?_
   refine pV 1 20 (bo 16 3) ?_
   refine pV 3 22 (bo 16 11) ?_
   refine pV 7 26 (bo 16 139) ?_
   refine pV 8 27 (bo 16 395) ?_
   refine tV 2 21 (bo 16 399) ?_
   refine tV 4 23 (bo 16 415) ?_
   refine pV 5 24 (bo 16 447) ?_
   refine one_ (i := 6) (N := some 25) (bo 16 511) rfl rfl (one_of HT_.out (by kernel_rfl)) (by decide) (fun K hK => ?_)
   refine goes_ Try.func136 (by kernel_rfl) rfl #[.slice A0 l0.length c0, .agg #[.string a1_1, .int .i64 a1_3]] (by rfl) rfl rfl sa ?_
   with_reducible refine (impl_linked.calls _ _ l0 a1_1 a1_3 t315 _ ?side1 ?side2 A5.out).mono ?_
   (case side1 => exact ca (Kd.C_below HR0.out HB.out))
   (case side2 => exact HC0.out)
   rintro e w18 ⟨v316, rfl, ho0, hb⟩
   refine ⟨_, rfl, ?_⟩
   have HO317 := Aside0.mk (Kd.R_lower ho0 (below_size bl)); replace BK312 := bv BK312 hb; replace HB := bs (w := w) hb; (try clear hb hb2 hk hi ho0)
   refine hK.out _ _ ⟨cb 0 BK312, cb 1 BK312, cb 2 BK312, cb 3 BK312⟩ (fun hHeld => ?_)
   clear hK K
   refine norm_ (a' := ?_) ?_ ?_
   rotate_left
   ·show Act.put _ (some 25) _ = _
    simp only [Act.put, List.setIfInBounds_toArray, List.set_cons_zero, List.set_cons_succ, i64_w, i32_w]
    rfl
   refine pV 9 28 (bo 16 1023) ?_
   refine pV 10 29 (bo 16 2047) ?_
   refine pV 14 4 (bo 16 18431) ?_
   refine tV 11 30 (bo 16 20479) ?_
   refine pV 12 31 (bo 16 24575) ?_
   refine pV 13 32 (bo 16 32767) ?_
   refine pV 15 5 (bo 16 65535) ?_
   refine done_ (done_of HT_.out (by kernel_rfl)) ?_
   try go_wp2
   go_ret2
   exact ⟨_, fe, rpR HO317.out, bl⟩
 ·rw [if_neg c4] at H
  have c4b0 : (a1_0 == 1) = false := beq_eq_false_iff_ne.mpr c4
  have c4b1 : (a1_0 != 1) = true := bne_iff_ne.mpr c4
  by_cases c19 : a1_0 = 2
  ·rw [if_pos c19] at H
   have c19b0 : (a1_0 == 2) = true := beq_iff_eq.mpr c19
   have c19b1 : (a1_0 != 2) = false := bne_eq_false_iff_eq.mpr c19
   clear c19
   have HC20 := Aside0.mk H
   clear H
   go_enter Try.func89, Try.ntmps89
   go_upto_region 6 with (first | ((with_reducible refine gD 3 rfl ?_); refine boxZ 3 #[.int .i64 a1_0, .string a1_1, .string a1_2, .int .i64 a1_3] 95 ?_; intro gb312 hg w21 hbox hb; have BK312 := Aside0.mk hbox; have GW312 := gw (w := w) hg; have GE312 := gw (w := w) hg; replace HB := bs (w := w) hb; clear hb hbox hg; obtain ⟨Z22_0, Z22_1, Z22_2, Z22_3, Y22_0, Y22_1, Y22_2, Y22_3⟩ := cf4 BK312) | ((with_reducible refine gC 135 rfl ?_); refine goesZ (some 12) rfl Try.func135 #[.slice A0 l0.length c0, .string a1_1] ?_; (with_reducible refine (impl_linkAt.calls _ _ l0 a1_1 t313 t314 _ ?side1 ?side2 A3.out).mono ?_); (case side1 => exact ca (Kd.C_below HR0.out HB.out)); (case side2 => exact HC0.out); rintro e w23 ⟨rfl, hb⟩; refine ⟨_, rfl, ?_⟩; replace BK312 := bv BK312 hb; replace HB := bs (w := w) hb; (try clear hb); obtain ⟨Z24_0, Z24_1, Z24_2, Z24_3, Y24_0, Y24_1, Y24_2, Y24_3⟩ := cf4 BK312))
   (try simp only [Act.put, List.setIfInBounds_toArray, List.set_cons_zero, List.set_cons_succ])
   go_cut [54] (fun v54 wc => ∃ (kq : Nat) (x54_19 : Bool), v54 = .bool x54_19 ∧ Aside0 (impl_applied.j0 kq l0 t313 x54_19 a1_0 a1_1 a1_2 a1_3 = some (r1, r2)) ∧ Aside0 (kq ≤ k) ∧ Aside0 (wc.heap[gb312]? = some (.cells #[.int .i64 a1_0, .string a1_1, .string a1_2, .int .i64 a1_3] 95 (0, 0))) ∧ Aside0 (Below w.heap.size w wc))
   case first =>
    have H := HC20.out
    clear HC20
    by_cases c25 : t314 = true
    ·subst c25
     replace H := iT H
     by_cases c26 : a1_3 = 0
     ·rw [if_pos c26] at H
      have c26b0 : (a1_3 == 0) = true := beq_iff_eq.mpr c26
      have c26b1 : (a1_3 != 0) = false := bne_eq_false_iff_eq.mpr c26
      clear c26
      (first | rw [c26b0] | (simp only [i64_w, i32_w]; rw [c26b0]) | skip)
      obtain ⟨t318, A27, H⟩ := bd H
      by_cases c28 : t318 = true
      ·subst c28
       replace H := iT H
       have H' := Aside0.mk H
       clear H
       obtain ⟨Z29_0, Z29_1, Z29_2, Z29_3, Y29_0, Y29_1, Y29_2, Y29_3⟩ := cf4 BK312
       go_wp2_with (first | (go_at_call 86; (with_reducible refine (impl_nameOk.calls k a1_2 true _ A27.out).mono ?_); rintro e w' ⟨rfl, ⟨nd, rfl⟩⟩))
       go_meet
       case rel => exact ⟨_, ((a1_2.toList == a1_1.toList)), fa, H', ⟨by first | omega | exact Nat.le_refl _⟩, ⟨by (with_reducible repeat (first | refine blk_drewN ?_ _ | refine blk_drew ?_ | refine blk_alloc ?_ _)); exact BK312.out⟩, ⟨bl⟩⟩
      ·replace c28 := Bool.eq_false_iff.mpr c28
       subst c28
       replace H := iF H
       have H' := Aside0.mk H
       clear H
       obtain ⟨Z30_0, Z30_1, Z30_2, Z30_3, Y30_0, Y30_1, Y30_2, Y30_3⟩ := cf4 BK312
       go_wp2_with (first | (go_at_call 86; (with_reducible refine (impl_nameOk.calls k a1_2 false _ A27.out).mono ?_); rintro e w' ⟨rfl, ⟨nd, rfl⟩⟩))
       go_meet
       case rel => exact ⟨_, (true), fa, H', ⟨by first | omega | exact Nat.le_refl _⟩, ⟨by (with_reducible repeat (first | refine blk_drewN ?_ _ | refine blk_drew ?_ | refine blk_alloc ?_ _)); exact BK312.out⟩, ⟨bl⟩⟩
     ·rw [if_neg c26] at H
      have c26b0 : (a1_3 == 0) = false := beq_eq_false_iff_ne.mpr c26
      have c26b1 : (a1_3 != 0) = true := bne_iff_ne.mpr c26
      (first | rw [c26b0] | (simp only [i64_w, i32_w]; rw [c26b0]) | skip)
      have H' := Aside0.mk H
      clear H
      obtain ⟨Z31_0, Z31_1, Z31_2, Z31_3, Y31_0, Y31_1, Y31_2, Y31_3⟩ := cf4 BK312
      go_wp2
      go_meet
      case rel => exact ⟨_, (true), fa, H', ⟨by first | omega | exact Nat.le_refl _⟩, ⟨by (with_reducible repeat (first | refine blk_drewN ?_ _ | refine blk_drew ?_ | refine blk_alloc ?_ _)); exact BK312.out⟩, ⟨bl⟩⟩
    ·replace c25 := Bool.eq_false_iff.mpr c25
     subst c25
     replace H := iF H
     have H' := Aside0.mk H
     clear H
     go_wp2
     go_meet
     case rel => exact ⟨_, (true), fa, H', ⟨by first | omega | exact Nat.le_refl _⟩, ⟨by (with_reducible repeat (first | refine blk_drewN ?_ _ | refine blk_drew ?_ | refine blk_alloc ?_ _)); exact BK312.out⟩, ⟨bl⟩⟩
   case rest =>
    clear HC20
    try clear c1
    try clear c2
    try clear p2
    try clear c4
    try clear c4b0
    try clear c4b1
    try clear c6
    try clear c8
    try clear c13
    try clear c19
    try clear c19b0
    try clear c19b1
    try clear c25
    try clear c26
    try clear c26b0
    try clear c26b1
    try clear c28
    try clear Z10_0 Z10_1 Z10_2 Z10_3
    try clear Z14_0 Z14_1 Z14_2 Z14_3
    try clear Z16_0 Z16_1 Z16_2 Z16_3
    try clear Z22_0 Z22_1 Z22_2 Z22_3
    try clear Z24_0 Z24_1 Z24_2 Z24_3
    try clear Z29_0 Z29_1 Z29_2 Z29_3
    try clear Z30_0 Z30_1 Z30_2 Z30_3
    try clear Z31_0 Z31_1 Z31_2 Z31_3
    try clear Z8_0 Z8_1 Z8_2 Z8_3
    try clear Y10_0 Y10_1 Y10_2 Y10_3
    try clear Y14_0 Y14_1 Y14_2 Y14_3
    try clear Y16_0 Y16_1 Y16_2 Y16_3
    try clear Y22_0 Y22_1 Y22_2 Y22_3
    try clear Y24_0 Y24_1 Y24_2 Y24_3
    try clear Y29_0 Y29_1 Y29_2 Y29_3
    try clear Y30_0 Y30_1 Y30_2 Y30_3
    try clear Y31_0 Y31_1 Y31_2 Y31_3
    try clear Y8_0 Y8_1 Y8_2 Y8_3
    obtain ⟨kq, x54_19, rfl, HA, HJ19, BK312, HB⟩ := hcut
    cases kq with
    | zero => exact absurd HA.out (by simp [impl_applied.j0])
    | succ kj19 =>
     have H := HA.out
     clear HA
     simp only [impl_applied.j0] at H
     by_cases c32 : x54_19 = true
     ·subst c32
      replace H := iT H
      simp only [Option.some.injEq, Prod.mk.injEq] at H
      obtain ⟨rfl, rfl⟩ := H
      go_wp2
      go_ret2
      exact ⟨_, fe, by first | exact Kd.R_nil _ _ _ _ _ | exact Kd.N_nil _ _ _ _ _ | exact Kd.V_nil _ _ _ _ _ | exact Kd.Q_nil _ _ _ _ _ | exact Kd.S_nil _ _ _ _ _, bl⟩
     ·replace c32 := Bool.eq_false_iff.mpr c32
      subst c32
      replace H := iF H
      obtain ⟨t319, A33, H⟩ := bd H
      by_cases c34 : 0 ≤ t313
      ·rw [if_pos c34] at H
       have c34b0 : decide (0 ≤ t313) = true := decide_eq_true c34
       clear c34
       by_cases c35 : t313 < (l0.length : Int)
       ·rw [if_pos c35] at H
        have c35b0 : decide (t313 < (l0.length : Int)) = true := decide_eq_true c35
        clear c35
        obtain ⟨t323, A36, H⟩ := bd H
        simp only [Option.some.injEq, Prod.mk.injEq] at H
        obtain ⟨rfl, rfl⟩ := H
        try go_wp2
        replace BK312 := Aside0.mk (blk_drew BK312.out); replace HB := Aside0.mk (below_drew1 HB.out)
        have p322 : 0 ≤ (t313 : Int) := of_decide_eq_true am
        have q322 : t313 < (l0.length : Int) := of_decide_eq_true am
        obtain ⟨ad322, e322, hx322_0, hx322_1⟩ := at_T93 HR0.out t313 p322 q322
        have hw322_1 := hx322_1
        have hw322_0 := hx322_0
        cases e322
        replace hx322_0 := cz HB hx322_0
        replace hx322_1 := cz HB hx322_1
        replace p322 := eq_true p322
        replace q322 := eq_true q322
        refine start_ (n := 15) (S := fun w' => w'.cell? ⟨gb312, 0, none⟩ = some (.int .i64 a1_0) ∧ w'.cell? ⟨gb312, 1, none⟩ = some (.string a1_1) ∧ w'.cell? ⟨gb312, 2, none⟩ = some (.string a1_2) ∧ w'.cell? ⟨gb312, 3, none⟩ = some (.int .i64 a1_3) ∧ w'.cell? (ad322.add ((t313).toNat * 2)) = some (.string ((rd_T93 l0 t313).f0)) ∧ w'.cell? ⟨(ad322.add ((t313).toNat * 2)).block, (ad322.add ((t313).toNat * 2)).off + 1, none⟩ = some (.int .i64 ((rd_T93 l0 t313).f1))) (ds := []) (bo 15 0) (by kernel_rfl) rfl rfl ⟨cb 0 BK312, cb 1 BK312, cb 2 BK312, cb 3 BK312, ((HB.out.cell (World.block_lt_of_cell? w _ hw322_0)).trans hw322_0), ((HB.out.cell (World.block_lt_of_cell? w _ hw322_1)).trans hw322_1)⟩ (fun hHeld => ?_); refine with_tabW impl_applied.tab8 impl_applied.bits8 (fun HT_ HW_ => ?_)
        generalize wc.drew = w37 at BK312 HB hx322_0 hx322_1 hHeld ⊢
        refine pV 0 55 (bo 15 1) ?_
        refine pV 1 56 (bo 15 3) ?_
        refine pV 4 59 (bo 15 19) ?_
        refine pV 6 61 (bo 15 83) ?_
        refine pV 7 62 (bo 15 211) ?_
        refine pV 8 63 (bo 15 467) ?_
        refine pV 9 64 (bo 15 979) ?_
        refine tV 2 57 (bo 15 983) ?_
        refine tV 5 60 (bo 15 1015) ?_
        refine tV 10 65 (bo 15 2039) ?_
        refine pV 11 66 (bo 15 4087) ?_
        refine one_ (i := 3) (N := some 58) (bo 15 4095) rfl rfl (one_of HT_.out (by kernel_rfl)) (by decide) (fun K hK => ?_)
        refine goes_ Try.func137 (by kernel_rfl) rfl #[.slice (some ad322) l0.length c0, .string a1_1] (by rfl) rfl rfl sa ?_
        with_reducible refine (impl_unlinked.calls _ _ l0 a1_1 t319 _ ?side1 ?side2 A33.out).mono ?_
        (case side1 => exact ca (Kd.C_below HR0.out HB.out))
        (case side2 => exact HC0.out)
        rintro e w38 ⟨v320, rfl, ho0, hb⟩
        refine ⟨_, rfl, ?_⟩
        have HO321 := Aside0.mk (Kd.R_lower ho0 (below_size bl)); replace BK312 := bv BK312 hb; replace HB := bs (w := w) hb; (try clear hb hb2 hk hi ho0)
        obtain ⟨Ao39, co39, eo39⟩ := Kd.R_slice HO321.out
        (first | subst eo39 | (injection eo39 with f1_ f2_ f3_; have f4_ := f1_.symm; have f5_ := f3_.symm; clear f1_ f2_ f3_; subst f4_; subst f5_))
        refine hK.out _ _ ⟨cb 0 BK312, cb 1 BK312, cb 2 BK312, cb 3 BK312, ((HB.out.cell (World.block_lt_of_cell? w _ hw322_0)).trans hw322_0), ((HB.out.cell (World.block_lt_of_cell? w _ hw322_1)).trans hw322_1)⟩ (fun hHeld => ?_)
        clear hK K
        refine norm_ (a' := ?_) ?_ ?_
        rotate_left
        ·show Act.put _ (some 58) _ = _
         simp only [Act.put, List.setIfInBounds_toArray, List.set_cons_zero, List.set_cons_succ, i64_w, i32_w]
         rfl
        refine one_ (i := 12) (N := some 67) (bo 15 8191) rfl rfl (one_of HT_.out (by kernel_rfl)) (by decide) (fun K hK => ?_)
        refine goes_ Try.func136 (by kernel_rfl) rfl #[.slice Ao39 t319.length co39, .agg #[.string a1_2, .int .i64 ((rd_T93 l0 t313).f1)]] (by rfl) rfl rfl sa ?_
        with_reducible refine (impl_linked.calls _ _ t319 a1_2 ((rd_T93 l0 t313).f1) t323 _ ?side1 ?side2 A36.out).mono ?_
        (case side1 => exact ca ((Kd.R_reads' HO321.out).2.2))
        (case side2 => exact (Kd.R_reads' HO321.out).2.1)
        rintro e w40 ⟨v324, rfl, ho0, hb⟩
        refine ⟨_, rfl, ?_⟩
        have HO325 := Aside0.mk (Kd.R_lower (Kd.R_new' ho0 (Kd.R_lt (rpR HO321.out))) (below_size bl)); replace HO321 := Aside0.mk (Kd.R_elder' (rpR HO321.out) (Kd.R_base ho0) hb); replace BK312 := bv BK312 hb; replace HB := bs (w := w) hb; (try clear hb hb2 hk hi ho0)
        refine hK.out _ _ ⟨cb 0 BK312, cb 1 BK312, cb 2 BK312, cb 3 BK312, ((HB.out.cell (World.block_lt_of_cell? w _ hw322_0)).trans hw322_0), ((HB.out.cell (World.block_lt_of_cell? w _ hw322_1)).trans hw322_1)⟩ (fun hHeld => ?_)
        clear hK K
        refine norm_ (a' := ?_) ?_ ?_
        rotate_left
        ·show Act.put _ (some 67) _ = _
         simp only [Act.put, List.setIfInBounds_toArray, List.set_cons_zero, List.set_cons_succ, i64_w, i32_w]
         rfl
        refine pV 13 4 (bo 15 16383) ?_
        refine pV 14 5 (bo 15 32767) ?_
        refine done_ (done_of HT_.out (by kernel_rfl)) ?_
        try go_wp2
        go_ret2
        exact ⟨_, fe, rpR (Kd.R_mono HO325.out (fun _ hk => trivial)), bl⟩
       ·rw [if_neg c35] at H
        exact absurd H (by simp)
      ·rw [if_neg c34] at H
       exact absurd H (by simp)
  ·rw [if_neg c19] at H
   have c19b0 : (a1_0 == 2) = false := beq_eq_false_iff_ne.mpr c19
   have c19b1 : (a1_0 != 2) = true := bne_iff_ne.mpr c19
   by_cases c41 : a1_0 = 3
   ·rw [if_pos c41] at H
    have c41b0 : (a1_0 == 3) = true := beq_iff_eq.mpr c41
    have c41b1 : (a1_0 != 3) = false := bne_eq_false_iff_eq.mpr c41
    clear c41
    obtain ⟨t326, A42, H⟩ := bd H
    by_cases c43 : t314 = true
    ·subst c43
     replace H := iT H
     by_cases c44 : a1_2.toList = ([] : List UInt8)
     ·rw [if_pos c44] at H
      have c44b0 : (a1_2.toList == ([] : List UInt8)) = true := beq_iff_eq.mpr c44
      have c44bE := c44b0; simp only [show ∀ l_ : List UInt8, (l_ == []) = l_.isEmpty from fun l_ => by cases l_ <;> rfl] at c44bE
      have c44b1 : (a1_2.toList != ([] : List UInt8)) = false := bne_eq_false_iff_eq.mpr c44
      clear c44
      simp only [Option.some.injEq, Prod.mk.injEq] at H
      obtain ⟨rfl, rfl⟩ := H
      go_enter Try.func89, Try.ntmps89
      try go_wp2_with (first | ((with_reducible refine gD 3 rfl ?_); refine boxZ 3 #[.int .i64 a1_0, .string a1_1, .string a1_2, .int .i64 a1_3] 95 ?_; intro gb312 hg w45 hbox hb; have BK312 := Aside0.mk hbox; have GW312 := gw (w := w) hg; have GE312 := gw (w := w) hg; replace HB := bs (w := w) hb; clear hb hbox hg; obtain ⟨Z46_0, Z46_1, Z46_2, Z46_3, Y46_0, Y46_1, Y46_2, Y46_3⟩ := cf4 BK312) | ((with_reducible refine gC 135 rfl ?_); refine goesZ (some 12) rfl Try.func135 #[.slice A0 l0.length c0, .string a1_1] ?_; (with_reducible refine (impl_linkAt.calls _ _ l0 a1_1 t313 true _ ?side1 ?side2 A3.out).mono ?_); (case side1 => exact ca (Kd.C_below HR0.out HB.out)); (case side2 => exact HC0.out); rintro e w47 ⟨rfl, hb⟩; refine ⟨_, rfl, ?_⟩; replace BK312 := bv BK312 hb; replace HB := bs (w := w) hb; (try clear hb); obtain ⟨Z48_0, Z48_1, Z48_2, Z48_3, Y48_0, Y48_1, Y48_2, Y48_3⟩ := cf4 BK312))
      replace BK312 := Aside0.mk (blk_drew BK312.out); replace HB := Aside0.mk (below_drew1 HB.out)
      refine start_ (n := 17) (S := fun w' => w'.cell? ⟨gb312, 0, none⟩ = some (.int .i64 a1_0) ∧ w'.cell? ⟨gb312, 1, none⟩ = some (.string a1_1) ∧ w'.cell? ⟨gb312, 2, none⟩ = some (.string a1_2) ∧ w'.cell? ⟨gb312, 3, none⟩ = some (.int .i64 a1_3)) (ds := []) (bo 17 0) (by kernel_rfl) rfl rfl ⟨cb 0 BK312, cb 1 BK312, cb 2 BK312, cb 3 BK312⟩ (fun hHeld => ?_); refine with_tabW impl_applied.tab10 impl_applied.bits10 (fun HT_ HW_ => ?_)
      generalize w47.drew = w49 at BK312 HB hHeld ⊢
      refine pV 0 70 (bo 17 1) ?_
      refine pV 1 71 (bo 17 3) ?_
      refine pV 4 74 (bo 17 19) ?_
      refine tV 2 72 (bo 17 23) ?_
      refine one_ (i := 3) (N := some 73) (bo 17 31) rfl rfl (one_of HT_.out (by kernel_rfl)) (by decide) (fun K hK => ?_)
      refine goes_ Try.func137 (by kernel_rfl) rfl #[.slice A0 l0.length c0, .string a1_1] (by rfl) rfl rfl sa ?_
      with_reducible refine (impl_unlinked.calls _ _ l0 a1_1 t326 _ ?side1 ?side2 A42.out).mono ?_
      (case side1 => exact ca (Kd.C_below HR0.out HB.out))
      (case side2 => exact HC0.out)
      rintro e w50 ⟨v327, rfl, ho0, hb⟩
      refine ⟨_, rfl, ?_⟩
      have HO328 := Aside0.mk (Kd.R_lower ho0 (below_size bl)); replace BK312 := bv BK312 hb; replace HB := bs (w := w) hb; (try clear hb hb2 hk hi ho0)
      refine hK.out _ _ ⟨cb 0 BK312, cb 1 BK312, cb 2 BK312, cb 3 BK312⟩ (fun hHeld => ?_)
      clear hK K
      refine norm_ (a' := ?_) ?_ ?_
      rotate_left
      ·show Act.put _ (some 73) _ = _
       simp only [Act.put, List.setIfInBounds_toArray, List.set_cons_zero, List.set_cons_succ, i64_w, i32_w]
       rfl
      refine pV 5 75 (bo 17 63) ?_
      refine pV 6 76 (bo 17 127) ?_
      refine tV 7 77 (bo 17 255) ?_
      refine pV 8 78 (bo 17 511) ?_
      refine pV 9 79 (bo 17 1023) ?_
      refine pV 10 80 (bo 17 2047) ?_
      refine pV 11 81 (bo 17 4095) ?_
      refine pV 15 4 (bo 17 36863) ?_
      refine tV 12 82 (bo 17 40959) ?_
      refine pV 13 83 (bo 17 49151) ?_
      refine pV 14 84 (bo 17 65535) ?_
      refine pV 16 5 (bo 17 131071) ?_
      refine done_ (done_of HT_.out (by kernel_rfl)) ?_
      try go_wp2
      go_ret2
      exact ⟨_, fe, rpR HO328.out, bl⟩
     ·rw [if_neg c44] at H
      have c44b0 : (a1_2.toList == ([] : List UInt8)) = false := beq_eq_false_iff_ne.mpr c44
      have c44bE := c44b0; simp only [show ∀ l_ : List UInt8, (l_ == []) = l_.isEmpty from fun l_ => by cases l_ <;> rfl] at c44bE
      have c44b1 : (a1_2.toList != ([] : List UInt8)) = true := bne_iff_ne.mpr c44
      simp only [Option.some.injEq, Prod.mk.injEq] at H
      obtain ⟨rfl, rfl⟩ := H
      go_enter Try.func89, Try.ntmps89
      try go_wp2_with (first | ((with_reducible refine gD 3 rfl ?_); refine boxZ 3 #[.int .i64 a1_0, .string a1_1, .string a1_2, .int .i64 a1_3] 95 ?_; intro gb312 hg w51 hbox hb; have BK312 := Aside0.mk hbox; have GW312 := gw (w := w) hg; have GE312 := gw (w := w) hg; replace HB := bs (w := w) hb; clear hb hbox hg; obtain ⟨Z52_0, Z52_1, Z52_2, Z52_3, Y52_0, Y52_1, Y52_2, Y52_3⟩ := cf4 BK312) | ((with_reducible refine gC 135 rfl ?_); refine goesZ (some 12) rfl Try.func135 #[.slice A0 l0.length c0, .string a1_1] ?_; (with_reducible refine (impl_linkAt.calls _ _ l0 a1_1 t313 true _ ?side1 ?side2 A3.out).mono ?_); (case side1 => exact ca (Kd.C_below HR0.out HB.out)); (case side2 => exact HC0.out); rintro e w53 ⟨rfl, hb⟩; refine ⟨_, rfl, ?_⟩; replace BK312 := bv BK312 hb; replace HB := bs (w := w) hb; (try clear hb); obtain ⟨Z54_0, Z54_1, Z54_2, Z54_3, Y54_0, Y54_1, Y54_2, Y54_3⟩ := cf4 BK312))
      replace BK312 := Aside0.mk (blk_drew BK312.out); replace HB := Aside0.mk (below_drew1 HB.out)
      refine start_ (n := 17) (S := fun w' => w'.cell? ⟨gb312, 0, none⟩ = some (.int .i64 a1_0) ∧ w'.cell? ⟨gb312, 1, none⟩ = some (.string a1_1) ∧ w'.cell? ⟨gb312, 2, none⟩ = some (.string a1_2) ∧ w'.cell? ⟨gb312, 3, none⟩ = some (.int .i64 a1_3)) (ds := []) (bo 17 0) (by kernel_rfl) rfl rfl ⟨cb 0 BK312, cb 1 BK312, cb 2 BK312, cb 3 BK312⟩ (fun hHeld => ?_); refine with_tabW impl_applied.tab10 impl_applied.bits10 (fun HT_ HW_ => ?_)
      generalize w53.drew = w55 at BK312 HB hHeld ⊢
      refine pV 0 70 (bo 17 1) ?_
      refine pV 1 71 (bo 17 3) ?_
      refine pV 4 74 (bo 17 19) ?_
      refine tV 2 72 (bo 17 23) ?_
      refine one_ (i := 3) (N := some 73) (bo 17 31) rfl rfl (one_of HT_.out (by kernel_rfl)) (by decide) (fun K hK => ?_)
      refine goes_ Try.func137 (by kernel_rfl) rfl #[.slice A0 l0.length c0, .string a1_1] (by rfl) rfl rfl sa ?_
      with_reducible refine (impl_unlinked.calls _ _ l0 a1_1 t326 _ ?side1 ?side2 A42.out).mono ?_
      (case side1 => exact ca (Kd.C_below HR0.out HB.out))
      (case side2 => exact HC0.out)
      rintro e w56 ⟨v327, rfl, ho0, hb⟩
      refine ⟨_, rfl, ?_⟩
      have HO328 := Aside0.mk (Kd.R_lower ho0 (below_size bl)); replace BK312 := bv BK312 hb; replace HB := bs (w := w) hb; (try clear hb hb2 hk hi ho0)
      refine hK.out _ _ ⟨cb 0 BK312, cb 1 BK312, cb 2 BK312, cb 3 BK312⟩ (fun hHeld => ?_)
      clear hK K
      refine norm_ (a' := ?_) ?_ ?_
      rotate_left
      ·show Act.put _ (some 73) _ = _
       simp only [Act.put, List.setIfInBounds_toArray, List.set_cons_zero, List.set_cons_succ, i64_w, i32_w]
       rfl
      refine pV 5 75 (bo 17 63) ?_
      refine pV 6 76 (bo 17 127) ?_
      refine tV 7 77 (bo 17 255) ?_
      refine pV 8 78 (bo 17 511) ?_
      refine pV 9 79 (bo 17 1023) ?_
      refine pV 10 80 (bo 17 2047) ?_
      refine pU 11 81 (bo 17 4095) ?_
      refine pU 12 82 (bo 17 8191) ?_
      refine pU 13 83 (bo 17 16383) ?_
      refine pV 14 84 (bo 17 32767) ?_
      refine pV 15 4 (bo 17 65535) ?_
      refine pV 16 5 (bo 17 131071) ?_
      refine done_ (done_of HT_.out (by kernel_rfl)) ?_
      try go_wp2
      go_ret2
      exact ⟨_, fe, rpR HO328.out, bl⟩
    ·replace c43 := Bool.eq_false_iff.mpr c43
     subst c43
     replace H := iF H
     simp only [Option.some.injEq, Prod.mk.injEq] at H
     obtain ⟨rfl, rfl⟩ := H
     go_enter Try.func89, Try.ntmps89
     try go_wp2_with (first | ((with_reducible refine gD 3 rfl ?_); refine boxZ 3 #[.int .i64 a1_0, .string a1_1, .string a1_2, .int .i64 a1_3] 95 ?_; intro gb312 hg w57 hbox hb; have BK312 := Aside0.mk hbox; have GW312 := gw (w := w) hg; have GE312 := gw (w := w) hg; replace HB := bs (w := w) hb; clear hb hbox hg; obtain ⟨Z58_0, Z58_1, Z58_2, Z58_3, Y58_0, Y58_1, Y58_2, Y58_3⟩ := cf4 BK312) | ((with_reducible refine gC 135 rfl ?_); refine goesZ (some 12) rfl Try.func135 #[.slice A0 l0.length c0, .string a1_1] ?_; (with_reducible refine (impl_linkAt.calls _ _ l0 a1_1 t313 false _ ?side1 ?side2 A3.out).mono ?_); (case side1 => exact ca (Kd.C_below HR0.out HB.out)); (case side2 => exact HC0.out); rintro e w59 ⟨rfl, hb⟩; refine ⟨_, rfl, ?_⟩; replace BK312 := bv BK312 hb; replace HB := bs (w := w) hb; (try clear hb); obtain ⟨Z60_0, Z60_1, Z60_2, Z60_3, Y60_0, Y60_1, Y60_2, Y60_3⟩ := cf4 BK312))
     replace BK312 := Aside0.mk (blk_drew BK312.out); replace HB := Aside0.mk (below_drew1 HB.out)
     refine start_ (n := 17) (S := fun w' => w'.cell? ⟨gb312, 0, none⟩ = some (.int .i64 a1_0) ∧ w'.cell? ⟨gb312, 1, none⟩ = some (.string a1_1) ∧ w'.cell? ⟨gb312, 2, none⟩ = some (.string a1_2) ∧ w'.cell? ⟨gb312, 3, none⟩ = some (.int .i64 a1_3)) (ds := []) (bo 17 0) (by kernel_rfl) rfl rfl ⟨cb 0 BK312, cb 1 BK312, cb 2 BK312, cb 3 BK312⟩ (fun hHeld => ?_); refine with_tabW impl_applied.tab10 impl_applied.bits10 (fun HT_ HW_ => ?_)
     generalize w59.drew = w61 at BK312 HB hHeld ⊢
     refine pV 0 70 (bo 17 1) ?_
     refine pV 1 71 (bo 17 3) ?_
     refine pV 4 74 (bo 17 19) ?_
     refine tV 2 72 (bo 17 23) ?_
     refine one_ (i := 3) (N := some 73) (bo 17 31) rfl rfl (one_of HT_.out (by kernel_rfl)) (by decide) (fun K hK => ?_)
     refine goes_ Try.func137 (by kernel_rfl) rfl #[.slice A0 l0.length c0, .string a1_1] (by rfl) rfl rfl sa ?_
     with_reducible refine (impl_unlinked.calls _ _ l0 a1_1 t326 _ ?side1 ?side2 A42.out).mono ?_
     (case side1 => exact ca (Kd.C_below HR0.out HB.out))
     (case side2 => exact HC0.out)
     rintro e w62 ⟨v327, rfl, ho0, hb⟩
     refine ⟨_, rfl, ?_⟩
     have HO328 := Aside0.mk (Kd.R_lower ho0 (below_size bl)); replace BK312 := bv BK312 hb; replace HB := bs (w := w) hb; (try clear hb hb2 hk hi ho0)
     refine hK.out _ _ ⟨cb 0 BK312, cb 1 BK312, cb 2 BK312, cb 3 BK312⟩ (fun hHeld => ?_)
     clear hK K
     refine norm_ (a' := ?_) ?_ ?_
     rotate_left
     ·show Act.put _ (some 73) _ = _
      simp only [Act.put, List.setIfInBounds_toArray, List.set_cons_zero, List.set_cons_succ, i64_w, i32_w]
      rfl
     refine pV 5 75 (bo 17 63) ?_
     refine pU 6 76 (bo 17 127) ?_
     refine pU 7 77 (bo 17 255) ?_
     refine pU 8 78 (bo 17 511) ?_
     refine pV 9 79 (bo 17 1023) ?_
     refine pV 10 80 (bo 17 2047) ?_
     refine pU 11 81 (bo 17 4095) ?_
     refine pU 12 82 (bo 17 8191) ?_
     refine pU 13 83 (bo 17 16383) ?_
     refine pV 14 84 (bo 17 32767) ?_
     refine pV 15 4 (bo 17 65535) ?_
     refine pV 16 5 (bo 17 131071) ?_
     refine done_ (done_of HT_.out (by kernel_rfl)) ?_
     try go_wp2
     go_ret2
     exact ⟨_, fe, rpR HO328.out, bl⟩
   ·rw [if_neg c41] at H
    have c41b0 : (a1_0 == 3) = false := beq_eq_false_iff_ne.mpr c41
    have c41b1 : (a1_0 != 3) = true := bne_iff_ne.mpr c41
    simp only [Option.some.injEq, Prod.mk.injEq] at H
    obtain ⟨rfl, rfl⟩ := H
    go_enter Try.func89, Try.ntmps89
    go_wp2_with (first | ((with_reducible refine gD 3 rfl ?_); refine boxZ 3 #[.int .i64 a1_0, .string a1_1, .string a1_2, .int .i64 a1_3] 95 ?_; intro gb312 hg w63 hbox hb; have BK312 := Aside0.mk hbox; have GW312 := gw (w := w) hg; have GE312 := gw (w := w) hg; replace HB := bs (w := w) hb; clear hb hbox hg; obtain ⟨Z64_0, Z64_1, Z64_2, Z64_3, Y64_0, Y64_1, Y64_2, Y64_3⟩ := cf4 BK312) | ((with_reducible refine gC 135 rfl ?_); refine goesZ (some 12) rfl Try.func135 #[.slice A0 l0.length c0, .string a1_1] ?_; (with_reducible refine (impl_linkAt.calls _ _ l0 a1_1 t313 t314 _ ?side1 ?side2 A3.out).mono ?_); (case side1 => exact ca (Kd.C_below HR0.out HB.out)); (case side2 => exact HC0.out); rintro e w65 ⟨rfl, hb⟩; refine ⟨_, rfl, ?_⟩; replace BK312 := bv BK312 hb; replace HB := bs (w := w) hb; (try clear hb); obtain ⟨Z66_0, Z66_1, Z66_2, Z66_3, Y66_0, Y66_1, Y66_2, Y66_3⟩ := cf4 BK312))
    go_ret2
    exact ⟨_, fe, by first | exact Kd.R_nil _ _ _ _ _ | exact Kd.N_nil _ _ _ _ _ | exact Kd.V_nil _ _ _ _ _ | exact Kd.Q_nil _ _ _ _ _ | exact Kd.S_nil _ _ _ _ _, bl⟩
end Go.Proofs.Ytjcmcamijaelbaa.PDisk
