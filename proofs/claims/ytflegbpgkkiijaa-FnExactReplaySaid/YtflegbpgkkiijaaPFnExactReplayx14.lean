-- PRINTED by print.py (a twelfth state) out of the translation. Not trusted: Lean checks it.
import Derived.Test.YtflegbpgkkiijaaPFnExactReplayx0
import Derived.Test.YtflegbpgkkiijaaPFnExactReplayx9
import Derived.Test.YtflegbpgkkiijaaPFnExactReplayx11
import Derived.Test.YtflegbpgkkiijaaPFnExactReplayx13
import Derived.Test.YtflegbpgkkiijaaZip
namespace Go.Proofs.Ytflegbpgkkiijaa.PFnExactReplay
open Go.RowKit Go.Proofs.YtflegbpgkkiijaaW.PrintWords Go.Proofs.YtflegbpgkkiijaaW.PrintLast Go.Proofs.YtflegbpgkkiijaaW.PrintMore Go.Proofs.Ytflegbpgkkiijaa.Zip
attribute [local go_sem] max2_int min2_int max_two min_two max_three min_three max_four min_four   -- for this text's walks alone
set_option linter.unusedVariables false
set_option linter.unusedSimpArgs false

/-! ### impl_ReadRec: function 13 -/
def impl_ReadRec.f (k : Nat) (a0 : ByteArray) : Option (Int × Int × Int × Int × ByteArray × Bool) := (impl_reader_kind.f a0 true).bind fun bt292 => ((impl_reader_num.f k bt292.2.1 bt292.2.2).bind fun bt295 => ((impl_reader_num.f k bt295.2.1 bt295.2.2).bind fun bt298 => ((impl_reader_num.f k bt298.2.1 bt298.2.2).bind fun bt301 => (if bt301.2.2 = true then ((impl_ShowRec.f k bt292.1 bt295.1 bt298.1 (wrap64 (bt301.1 - 1)) bt301.2.1).bind fun t304 => (if t304.toList = a0.toList then (some (bt292.1, bt295.1, bt298.1, wrap64 (bt301.1 - 1), bt301.2.1, true)) else (some (0, 0, 0, 0, (⟨#[]⟩ : ByteArray), false)))) else (some (0, 0, 0, 0, (⟨#[]⟩ : ByteArray), false))))))
theorem impl_ReadRec.mono : ∀ a0 k, LeO (impl_ReadRec.f k a0) (impl_ReadRec.f (k + 1) a0) := by
 intro a0 k
 unfold impl_ReadRec.f
 repeat' first
  | (with_reducible exact impl_ShowRec.mono _ _ _ _ _ _)
  | (with_reducible exact impl_reader_num.mono _ _ _)
  | (with_reducible exact LeO.refl _)
  | (with_reducible exact LeO.none _)
  | (with_reducible refine LeO.ite ?_ ?_)
  | (with_reducible refine LeO.bind ?_ (fun _ => ?_))
  | exact impl_ShowRec.mono _ _ _ _ _ _
  | exact impl_reader_num.mono _ _ _
  | exact LeO.none _
  | refine LeO.ite ?_ ?_
  | refine LeO.bind ?_ (fun _ => ?_)
set_option maxHeartbeats 8000000 in
set_option maxRecDepth 100000 in
theorem impl_ReadRec.calls (k : Nat) (a0 : ByteArray) (r1 : Int) (r2 : Int) (r3 : Int) (r4 : Int) (r5 : ByteArray) (r6 : Bool) (w : World) (h : impl_ReadRec.f k a0 = some (r1, r2, r3, r4, r5, r6)) :
 Calls Try.prog 13 #[.string a0] w fun e w' => e = .returned (.tuple #[.agg #[.int .i64 r1, .int .i64 r2, .int .i64 r3, .int .i64 r4, .string r5], .bool r6]) ∧ Below w.heap.size w w' := by
 have hu34 := Try.underlying34
 have hu54 := Try.underlying54
 have HB := Aside0.mk (Below.refl w.heap.size w)
 have H : ((impl_reader_kind.f a0 true).bind fun bt292 => ((impl_reader_num.f k bt292.2.1 bt292.2.2).bind fun bt295 => ((impl_reader_num.f k bt295.2.1 bt295.2.2).bind fun bt298 => ((impl_reader_num.f k bt298.2.1 bt298.2.2).bind fun bt301 => (if bt301.2.2 = true then ((impl_ShowRec.f k bt292.1 bt295.1 bt298.1 (wrap64 (bt301.1 - 1)) bt301.2.1).bind fun t304 => (if t304.toList = a0.toList then (some (bt292.1, bt295.1, bt298.1, wrap64 (bt301.1 - 1), bt301.2.1, true)) else (some (0, 0, 0, 0, (⟨#[]⟩ : ByteArray), false)))) else (some (0, 0, 0, 0, (⟨#[]⟩ : ByteArray), false))))))) = some (r1, r2, r3, r4, r5, r6) := h
 clear h
 replace H := Option.bind_eq_some_iff.mp H
 obtain ⟨⟨t292, t293, t294⟩, A20, H⟩ := H
 replace H : ((impl_reader_num.f k t293 t294).bind fun bt295 => ((impl_reader_num.f k bt295.2.1 bt295.2.2).bind fun bt298 => ((impl_reader_num.f k bt298.2.1 bt298.2.2).bind fun bt301 => (if bt301.2.2 = true then ((impl_ShowRec.f k t292 bt295.1 bt298.1 (wrap64 (bt301.1 - 1)) bt301.2.1).bind fun t304 => (if t304.toList = a0.toList then (some (t292, bt295.1, bt298.1, wrap64 (bt301.1 - 1), bt301.2.1, true)) else (some (0, 0, 0, 0, (⟨#[]⟩ : ByteArray), false)))) else (some (0, 0, 0, 0, (⟨#[]⟩ : ByteArray), false)))))) = some (r1, r2, r3, r4, r5, r6) := H
 have A2 := Aside0.mk A20
 clear A20
 replace H := Option.bind_eq_some_iff.mp H
 obtain ⟨⟨t295, t296, t297⟩, A30, H⟩ := H
 replace H : ((impl_reader_num.f k t296 t297).bind fun bt298 => ((impl_reader_num.f k bt298.2.1 bt298.2.2).bind fun bt301 => (if bt301.2.2 = true then ((impl_ShowRec.f k t292 t295 bt298.1 (wrap64 (bt301.1 - 1)) bt301.2.1).bind fun t304 => (if t304.toList = a0.toList then (some (t292, t295, bt298.1, wrap64 (bt301.1 - 1), bt301.2.1, true)) else (some (0, 0, 0, 0, (⟨#[]⟩ : ByteArray), false)))) else (some (0, 0, 0, 0, (⟨#[]⟩ : ByteArray), false))))) = some (r1, r2, r3, r4, r5, r6) := H
 have A3 := Aside0.mk A30
 clear A30
 replace H := Option.bind_eq_some_iff.mp H
 obtain ⟨⟨t298, t299, t300⟩, A40, H⟩ := H
 replace H : ((impl_reader_num.f k t299 t300).bind fun bt301 => (if bt301.2.2 = true then ((impl_ShowRec.f k t292 t295 t298 (wrap64 (bt301.1 - 1)) bt301.2.1).bind fun t304 => (if t304.toList = a0.toList then (some (t292, t295, t298, wrap64 (bt301.1 - 1), bt301.2.1, true)) else (some (0, 0, 0, 0, (⟨#[]⟩ : ByteArray), false)))) else (some (0, 0, 0, 0, (⟨#[]⟩ : ByteArray), false)))) = some (r1, r2, r3, r4, r5, r6) := H
 have A4 := Aside0.mk A40
 clear A40
 replace H := Option.bind_eq_some_iff.mp H
 obtain ⟨⟨t301, t302, t303⟩, A50, H⟩ := H
 replace H : (if t303 = true then ((impl_ShowRec.f k t292 t295 t298 (wrap64 (t301 - 1)) t302).bind fun t304 => (if t304.toList = a0.toList then (some (t292, t295, t298, wrap64 (t301 - 1), t302, true)) else (some (0, 0, 0, 0, (⟨#[]⟩ : ByteArray), false)))) else (some (0, 0, 0, 0, (⟨#[]⟩ : ByteArray), false))) = some (r1, r2, r3, r4, r5, r6) := H
 have A5 := Aside0.mk A50
 clear A50
 by_cases c6 : t303 = true
 ·subst c6
  replace H := iT H
  obtain ⟨t304, A7, H⟩ := bd H
  by_cases c8 : t304.toList = a0.toList
  ·rw [if_pos c8] at H
   have c8b0 : (t304.toList == a0.toList) = true := beq_iff_eq.mpr c8
   have c8b1 : (t304.toList != a0.toList) = false := bne_eq_false_iff_eq.mpr c8
   clear c8
   simp only [Option.some.injEq, Prod.mk.injEq] at H
   obtain ⟨rfl, rfl, rfl, rfl, rfl, rfl⟩ := H
   go_enter Try.func13, Try.ntmps13
   go_wp2_with (first | ((with_reducible refine gD 2 rfl ?_); refine boxZ 2 #[.int .i64 0, .int .i64 0, .int .i64 0, .int .i64 0, .string (⟨#[]⟩ : ByteArray)] 34 ?_; intro gb289 hg w9 hbox hb; have BK289 := Aside0.mk hbox; have GW289 := gw (w := w) hg; have GE289 := gw (w := w) hg; replace HB := bs (w := w) hb; clear hb hbox hg) | ((with_reducible refine gD 8 rfl ?_); refine boxZ 8 #[.string a0, .bool true] 54 ?_; intro gb290 hg w10 hbox hb; have BK290 := Aside0.mk hbox; have GW290 := gw (w := w) hg; have GE290 := gw (w := w) hg; replace HB := bs (w := w) hb; have NB289_290 := nl BK289 hg; have NB290_289 := nr BK289 hg; replace BK289 := bv BK289 hb; clear hb hbox hg) | ((with_reducible refine gD 5 rfl ?_); refine boxZ 5 #[.int .i64 0, .int .i64 0, .int .i64 0, .int .i64 0, .string (⟨#[]⟩ : ByteArray)] 34 ?_; intro gb291 hg w11 hbox hb; have BK291 := Aside0.mk hbox; have GW291 := gw (w := w) hg; have GE291 := gw (w := w) hg; replace HB := bs (w := w) hb; have NB289_291 := nl BK289 hg; have NB291_289 := nr BK289 hg; replace BK289 := bv BK289 hb; have NB290_291 := nl BK290 hg; have NB291_290 := nr BK290 hg; replace BK290 := bv BK290 hb; clear hb hbox hg; have hnb12 := NB291_289.out; have hnc12 := NB289_291.out; have hnb13 := NB291_290.out; have hnc13 := NB290_291.out; obtain ⟨Z14_0, Z14_1, Z14_2, Z14_3, Z14_4, Y14_0, Y14_1, Y14_2, Y14_3, Y14_4⟩ := cf5 BK291; have HI290 := Aside0.mk (show IsS54 w _ _ _ _ from ⟨BK290.out, GW290.out⟩)) | ((with_reducible refine gC 26 rfl ?_); refine goesZ (some 11) rfl Try.func26 #[.pointer (some ⟨gb290, 0, none⟩)] ?_; (with_reducible refine (impl_reader_kind.calls gb290 a0 true t292 t293 t294 w _ ?side1 ?side2 A2.out).mono ?_); (case side1 => repeat (first | (with_reducible first | exact HI290.out | apply IsS54.alloc | apply IsS54.drewN | apply IsS54.drew | apply IsS54.set_0 | apply IsS54.set_1 | refine IsS54.far ?_ NB290_289.out _ | refine IsS54.far ?_ NB290_291.out _) | exact HI290.out)); (case side2 => repeat (first | (with_reducible first | exact HB.out | apply below_alloc | apply pw_below_drewN | apply below_drew1 | refine below_set ?_ (IsS54.ge HI290.out) | refine below_set ?_ GE289.out | refine below_set ?_ GE291.out) | exact HB.out)); rintro e w15 ⟨rfl, hi, hb, hk⟩; refine ⟨_, rfl, ?_⟩; replace BK289 := Aside0.mk (KeepBut.blk hk (g' := gb289) (o := .cells #[.int .i64 0, .int .i64 0, .int .i64 0, .int .i64 0, .string (⟨#[]⟩ : ByteArray)] 34 (0, 0)) bkk NB289_290.out (by simp)); replace BK291 := Aside0.mk (KeepBut.blk hk (g' := gb291) (o := .cells #[.int .i64 0, .int .i64 0, .int .i64 0, .int .i64 0, .string (⟨#[]⟩ : ByteArray)] 34 (0, 0)) bkk NB291_290.out (by simp)); replace HB := Aside0.mk (hb); replace HI290 := Aside0.mk (hi); (try clear hb hk hi); obtain ⟨Z16_0, Z16_1, Z16_2, Z16_3, Z16_4, Y16_0, Y16_1, Y16_2, Y16_3, Y16_4⟩ := cf5 BK291) | ((with_reducible refine gC 27 rfl ?_); refine goesZ (some 14) rfl Try.func27 #[.pointer (some ⟨gb290, 0, none⟩)] ?_; (with_reducible refine (impl_reader_num.calls k gb290 t293 t294 t295 t296 t297 w _ ?side1 ?side2 A3.out).mono ?_); (case side1 => repeat (first | (with_reducible first | exact HI290.out | apply IsS54.alloc | apply IsS54.drewN | apply IsS54.drew | apply IsS54.set_0 | apply IsS54.set_1 | refine IsS54.far ?_ NB290_289.out _ | refine IsS54.far ?_ NB290_291.out _) | exact HI290.out)); (case side2 => repeat (first | (with_reducible first | exact HB.out | apply below_alloc | apply pw_below_drewN | apply below_drew1 | refine below_set ?_ (IsS54.ge HI290.out) | refine below_set ?_ GE289.out | refine below_set ?_ GE291.out) | exact HB.out)); rintro e w17 ⟨rfl, hi, hb, hk⟩; refine ⟨_, rfl, ?_⟩; replace BK289 := Aside0.mk (KeepBut.blk hk (g' := gb289) (o := .cells #[.int .i64 0, .int .i64 0, .int .i64 0, .int .i64 0, .string (⟨#[]⟩ : ByteArray)] 34 (0, 0)) bkk NB289_290.out (by simp)); replace BK291 := Aside0.mk (KeepBut.blk hk (g' := gb291) (o := .cells #[.int .i64 t292, .int .i64 0, .int .i64 0, .int .i64 0, .string (⟨#[]⟩ : ByteArray)] 34 (0, 0)) bkk NB291_290.out (by simp)); replace HB := Aside0.mk (hb); replace HI290 := Aside0.mk (hi); (try clear hb hk hi); obtain ⟨Z18_0, Z18_1, Z18_2, Z18_3, Z18_4, Y18_0, Y18_1, Y18_2, Y18_3, Y18_4⟩ := cf5 BK291) | ((with_reducible refine gC 27 rfl ?_); refine goesZ (some 17) rfl Try.func27 #[.pointer (some ⟨gb290, 0, none⟩)] ?_; (with_reducible refine (impl_reader_num.calls k gb290 t296 t297 t298 t299 t300 w _ ?side1 ?side2 A4.out).mono ?_); (case side1 => repeat (first | (with_reducible first | exact HI290.out | apply IsS54.alloc | apply IsS54.drewN | apply IsS54.drew | apply IsS54.set_0 | apply IsS54.set_1 | refine IsS54.far ?_ NB290_289.out _ | refine IsS54.far ?_ NB290_291.out _) | exact HI290.out)); (case side2 => repeat (first | (with_reducible first | exact HB.out | apply below_alloc | apply pw_below_drewN | apply below_drew1 | refine below_set ?_ (IsS54.ge HI290.out) | refine below_set ?_ GE289.out | refine below_set ?_ GE291.out) | exact HB.out)); rintro e w19 ⟨rfl, hi, hb, hk⟩; refine ⟨_, rfl, ?_⟩; replace BK289 := Aside0.mk (KeepBut.blk hk (g' := gb289) (o := .cells #[.int .i64 0, .int .i64 0, .int .i64 0, .int .i64 0, .string (⟨#[]⟩ : ByteArray)] 34 (0, 0)) bkk NB289_290.out (by simp)); replace BK291 := Aside0.mk (KeepBut.blk hk (g' := gb291) (o := .cells #[.int .i64 t292, .int .i64 t295, .int .i64 0, .int .i64 0, .string (⟨#[]⟩ : ByteArray)] 34 (0, 0)) bkk NB291_290.out (by simp)); replace HB := Aside0.mk (hb); replace HI290 := Aside0.mk (hi); (try clear hb hk hi); obtain ⟨Z20_0, Z20_1, Z20_2, Z20_3, Z20_4, Y20_0, Y20_1, Y20_2, Y20_3, Y20_4⟩ := cf5 BK291) | ((with_reducible refine gC 27 rfl ?_); refine goesZ (some 20) rfl Try.func27 #[.pointer (some ⟨gb290, 0, none⟩)] ?_; (with_reducible refine (impl_reader_num.calls k gb290 t299 t300 t301 t302 true w _ ?side1 ?side2 A5.out).mono ?_); (case side1 => repeat (first | (with_reducible first | exact HI290.out | apply IsS54.alloc | apply IsS54.drewN | apply IsS54.drew | apply IsS54.set_0 | apply IsS54.set_1 | refine IsS54.far ?_ NB290_289.out _ | refine IsS54.far ?_ NB290_291.out _) | exact HI290.out)); (case side2 => repeat (first | (with_reducible first | exact HB.out | apply below_alloc | apply pw_below_drewN | apply below_drew1 | refine below_set ?_ (IsS54.ge HI290.out) | refine below_set ?_ GE289.out | refine below_set ?_ GE291.out) | exact HB.out)); rintro e w21 ⟨rfl, hi, hb, hk⟩; refine ⟨_, rfl, ?_⟩; replace BK289 := Aside0.mk (KeepBut.blk hk (g' := gb289) (o := .cells #[.int .i64 0, .int .i64 0, .int .i64 0, .int .i64 0, .string (⟨#[]⟩ : ByteArray)] 34 (0, 0)) bkk NB289_290.out (by simp)); replace BK291 := Aside0.mk (KeepBut.blk hk (g' := gb291) (o := .cells #[.int .i64 t292, .int .i64 t295, .int .i64 t298, .int .i64 0, .string (⟨#[]⟩ : ByteArray)] 34 (0, 0)) bkk NB291_290.out (by simp)); replace HB := Aside0.mk (hb); replace HI290 := Aside0.mk (hi); (try clear hb hk hi); obtain ⟨Z22_0, Z22_1, Z22_2, Z22_3, Z22_4, Y22_0, Y22_1, Y22_2, Y22_3, Y22_4⟩ := cf5 BK291; obtain ⟨HGz23, hgz23⟩ := HI290.out; have Z23_0 := cellS54_0 HGz23; have Z23_1 := cellS54_1 HGz23; have Y23_0 := blk_frozen HGz23 0; have Y23_1 := blk_frozen HGz23 1; clear HGz23 hgz23) | (go_at_call 28; (with_reducible refine (impl_ShowRec.calls k t292 t295 t298 (wrap64 (t301 - 1)) t302 t304 _ A7.out).mono ?_); rintro e w24 ⟨rfl, hb⟩; replace BK289 := Aside0.mk (blk_below (g := gb289) (o := .cells #[.int .i64 0, .int .i64 0, .int .i64 0, .int .i64 0, .string (⟨#[]⟩ : ByteArray)] 34 (0, 0)) bkk hb); replace BK291 := Aside0.mk (blk_below (g := gb291) (o := .cells #[.int .i64 t292, .int .i64 t295, .int .i64 t298, .int .i64 (wrap64 (t301 - 1)), .string t302] 34 (0, 0)) bkk hb); replace HB := Aside0.mk (below_step (by repeat (first | (with_reducible first | exact HB.out | apply below_alloc | apply pw_below_drewN | apply below_drew1 | refine below_set ?_ (IsS54.ge HI290.out) | refine below_set ?_ GE289.out | refine below_set ?_ GE291.out) | exact HB.out)) hb); replace HI290 := Aside0.mk (IsS54.below (show IsS54 w ((w21.setCell ⟨gb291, 3, none⟩ (.int .i64 (wrap64 (t301 - 1)))).setCell ⟨gb291, 4, none⟩ (.string t302)) gb290 t302 true from by repeat (first | (with_reducible first | exact HI290.out | apply IsS54.alloc | apply IsS54.drewN | apply IsS54.drew | apply IsS54.set_0 | apply IsS54.set_1 | refine IsS54.far ?_ NB290_289.out _ | refine IsS54.far ?_ NB290_291.out _) | exact HI290.out)) hb); (try clear hb); obtain ⟨Z25_0, Z25_1, Z25_2, Z25_3, Z25_4, Y25_0, Y25_1, Y25_2, Y25_3, Y25_4⟩ := cf5 BK291; have hnb26 := NB289_290.out; have hnc26 := NB290_289.out; obtain ⟨Z27_0, Z27_1, Z27_2, Z27_3, Z27_4, Y27_0, Y27_1, Y27_2, Y27_3, Y27_4⟩ := cf5 BK289))
   refine bodyPost_ret (results_ct rfl _ _ gb289 34 #[.int .i64 t292, .int .i64 t295, .int .i64 t298, .int .i64 (wrap64 (t301 - 1)), .string t302] (0, 0) _ rfl bkk Try.underlying34 rfl (by kernel_rfl)) rfl ?_
   exact ⟨fe, by repeat (first | (with_reducible first | exact HB.out | apply below_alloc | apply pw_below_drewN | apply below_drew1 | refine below_set ?_ (IsS54.ge HI290.out) | refine below_set ?_ GE289.out | refine below_set ?_ GE291.out) | exact HB.out)⟩
  ·rw [if_neg c8] at H
   have c8b0 : (t304.toList == a0.toList) = false := beq_eq_false_iff_ne.mpr c8
   have c8b1 : (t304.toList != a0.toList) = true := bne_iff_ne.mpr c8
   simp only [Option.some.injEq, Prod.mk.injEq] at H
   obtain ⟨rfl, rfl, rfl, rfl, rfl, rfl⟩ := H
   go_enter Try.func13, Try.ntmps13
   go_wp2_with (first | ((with_reducible refine gD 2 rfl ?_); refine boxZ 2 #[.int .i64 0, .int .i64 0, .int .i64 0, .int .i64 0, .string (⟨#[]⟩ : ByteArray)] 34 ?_; intro gb289 hg w28 hbox hb; have BK289 := Aside0.mk hbox; have GW289 := gw (w := w) hg; have GE289 := gw (w := w) hg; replace HB := bs (w := w) hb; clear hb hbox hg) | ((with_reducible refine gD 8 rfl ?_); refine boxZ 8 #[.string a0, .bool true] 54 ?_; intro gb290 hg w29 hbox hb; have BK290 := Aside0.mk hbox; have GW290 := gw (w := w) hg; have GE290 := gw (w := w) hg; replace HB := bs (w := w) hb; have NB289_290 := nl BK289 hg; have NB290_289 := nr BK289 hg; replace BK289 := bv BK289 hb; clear hb hbox hg) | ((with_reducible refine gD 5 rfl ?_); refine boxZ 5 #[.int .i64 0, .int .i64 0, .int .i64 0, .int .i64 0, .string (⟨#[]⟩ : ByteArray)] 34 ?_; intro gb291 hg w30 hbox hb; have BK291 := Aside0.mk hbox; have GW291 := gw (w := w) hg; have GE291 := gw (w := w) hg; replace HB := bs (w := w) hb; have NB289_291 := nl BK289 hg; have NB291_289 := nr BK289 hg; replace BK289 := bv BK289 hb; have NB290_291 := nl BK290 hg; have NB291_290 := nr BK290 hg; replace BK290 := bv BK290 hb; clear hb hbox hg; have hnb31 := NB291_289.out; have hnc31 := NB289_291.out; have hnb32 := NB291_290.out; have hnc32 := NB290_291.out; obtain ⟨Z33_0, Z33_1, Z33_2, Z33_3, Z33_4, Y33_0, Y33_1, Y33_2, Y33_3, Y33_4⟩ := cf5 BK291; have HI290 := Aside0.mk (show IsS54 w _ _ _ _ from ⟨BK290.out, GW290.out⟩)) | ((with_reducible refine gC 26 rfl ?_); refine goesZ (some 11) rfl Try.func26 #[.pointer (some ⟨gb290, 0, none⟩)] ?_; (with_reducible refine (impl_reader_kind.calls gb290 a0 true t292 t293 t294 w _ ?side1 ?side2 A2.out).mono ?_); (case side1 => repeat (first | (with_reducible first | exact HI290.out | apply IsS54.alloc | apply IsS54.drewN | apply IsS54.drew | apply IsS54.set_0 | apply IsS54.set_1 | refine IsS54.far ?_ NB290_289.out _ | refine IsS54.far ?_ NB290_291.out _) | exact HI290.out)); (case side2 => repeat (first | (with_reducible first | exact HB.out | apply below_alloc | apply pw_below_drewN | apply below_drew1 | refine below_set ?_ (IsS54.ge HI290.out) | refine below_set ?_ GE289.out | refine below_set ?_ GE291.out) | exact HB.out)); rintro e w34 ⟨rfl, hi, hb, hk⟩; refine ⟨_, rfl, ?_⟩; replace BK289 := Aside0.mk (KeepBut.blk hk (g' := gb289) (o := .cells #[.int .i64 0, .int .i64 0, .int .i64 0, .int .i64 0, .string (⟨#[]⟩ : ByteArray)] 34 (0, 0)) bkk NB289_290.out (by simp)); replace BK291 := Aside0.mk (KeepBut.blk hk (g' := gb291) (o := .cells #[.int .i64 0, .int .i64 0, .int .i64 0, .int .i64 0, .string (⟨#[]⟩ : ByteArray)] 34 (0, 0)) bkk NB291_290.out (by simp)); replace HB := Aside0.mk (hb); replace HI290 := Aside0.mk (hi); (try clear hb hk hi); obtain ⟨Z35_0, Z35_1, Z35_2, Z35_3, Z35_4, Y35_0, Y35_1, Y35_2, Y35_3, Y35_4⟩ := cf5 BK291) | ((with_reducible refine gC 27 rfl ?_); refine goesZ (some 14) rfl Try.func27 #[.pointer (some ⟨gb290, 0, none⟩)] ?_; (with_reducible refine (impl_reader_num.calls k gb290 t293 t294 t295 t296 t297 w _ ?side1 ?side2 A3.out).mono ?_); (case side1 => repeat (first | (with_reducible first | exact HI290.out | apply IsS54.alloc | apply IsS54.drewN | apply IsS54.drew | apply IsS54.set_0 | apply IsS54.set_1 | refine IsS54.far ?_ NB290_289.out _ | refine IsS54.far ?_ NB290_291.out _) | exact HI290.out)); (case side2 => repeat (first | (with_reducible first | exact HB.out | apply below_alloc | apply pw_below_drewN | apply below_drew1 | refine below_set ?_ (IsS54.ge HI290.out) | refine below_set ?_ GE289.out | refine below_set ?_ GE291.out) | exact HB.out)); rintro e w36 ⟨rfl, hi, hb, hk⟩; refine ⟨_, rfl, ?_⟩; replace BK289 := Aside0.mk (KeepBut.blk hk (g' := gb289) (o := .cells #[.int .i64 0, .int .i64 0, .int .i64 0, .int .i64 0, .string (⟨#[]⟩ : ByteArray)] 34 (0, 0)) bkk NB289_290.out (by simp)); replace BK291 := Aside0.mk (KeepBut.blk hk (g' := gb291) (o := .cells #[.int .i64 t292, .int .i64 0, .int .i64 0, .int .i64 0, .string (⟨#[]⟩ : ByteArray)] 34 (0, 0)) bkk NB291_290.out (by simp)); replace HB := Aside0.mk (hb); replace HI290 := Aside0.mk (hi); (try clear hb hk hi); obtain ⟨Z37_0, Z37_1, Z37_2, Z37_3, Z37_4, Y37_0, Y37_1, Y37_2, Y37_3, Y37_4⟩ := cf5 BK291) | ((with_reducible refine gC 27 rfl ?_); refine goesZ (some 17) rfl Try.func27 #[.pointer (some ⟨gb290, 0, none⟩)] ?_; (with_reducible refine (impl_reader_num.calls k gb290 t296 t297 t298 t299 t300 w _ ?side1 ?side2 A4.out).mono ?_); (case side1 => repeat (first | (with_reducible first | exact HI290.out | apply IsS54.alloc | apply IsS54.drewN | apply IsS54.drew | apply IsS54.set_0 | apply IsS54.set_1 | refine IsS54.far ?_ NB290_289.out _ | refine IsS54.far ?_ NB290_291.out _) | exact HI290.out)); (case side2 => repeat (first | (with_reducible first | exact HB.out | apply below_alloc | apply pw_below_drewN | apply below_drew1 | refine below_set ?_ (IsS54.ge HI290.out) | refine below_set ?_ GE289.out | refine below_set ?_ GE291.out) | exact HB.out)); rintro e w38 ⟨rfl, hi, hb, hk⟩; refine ⟨_, rfl, ?_⟩; replace BK289 := Aside0.mk (KeepBut.blk hk (g' := gb289) (o := .cells #[.int .i64 0, .int .i64 0, .int .i64 0, .int .i64 0, .string (⟨#[]⟩ : ByteArray)] 34 (0, 0)) bkk NB289_290.out (by simp)); replace BK291 := Aside0.mk (KeepBut.blk hk (g' := gb291) (o := .cells #[.int .i64 t292, .int .i64 t295, .int .i64 0, .int .i64 0, .string (⟨#[]⟩ : ByteArray)] 34 (0, 0)) bkk NB291_290.out (by simp)); replace HB := Aside0.mk (hb); replace HI290 := Aside0.mk (hi); (try clear hb hk hi); obtain ⟨Z39_0, Z39_1, Z39_2, Z39_3, Z39_4, Y39_0, Y39_1, Y39_2, Y39_3, Y39_4⟩ := cf5 BK291) | ((with_reducible refine gC 27 rfl ?_); refine goesZ (some 20) rfl Try.func27 #[.pointer (some ⟨gb290, 0, none⟩)] ?_; (with_reducible refine (impl_reader_num.calls k gb290 t299 t300 t301 t302 true w _ ?side1 ?side2 A5.out).mono ?_); (case side1 => repeat (first | (with_reducible first | exact HI290.out | apply IsS54.alloc | apply IsS54.drewN | apply IsS54.drew | apply IsS54.set_0 | apply IsS54.set_1 | refine IsS54.far ?_ NB290_289.out _ | refine IsS54.far ?_ NB290_291.out _) | exact HI290.out)); (case side2 => repeat (first | (with_reducible first | exact HB.out | apply below_alloc | apply pw_below_drewN | apply below_drew1 | refine below_set ?_ (IsS54.ge HI290.out) | refine below_set ?_ GE289.out | refine below_set ?_ GE291.out) | exact HB.out)); rintro e w40 ⟨rfl, hi, hb, hk⟩; refine ⟨_, rfl, ?_⟩; replace BK289 := Aside0.mk (KeepBut.blk hk (g' := gb289) (o := .cells #[.int .i64 0, .int .i64 0, .int .i64 0, .int .i64 0, .string (⟨#[]⟩ : ByteArray)] 34 (0, 0)) bkk NB289_290.out (by simp)); replace BK291 := Aside0.mk (KeepBut.blk hk (g' := gb291) (o := .cells #[.int .i64 t292, .int .i64 t295, .int .i64 t298, .int .i64 0, .string (⟨#[]⟩ : ByteArray)] 34 (0, 0)) bkk NB291_290.out (by simp)); replace HB := Aside0.mk (hb); replace HI290 := Aside0.mk (hi); (try clear hb hk hi); obtain ⟨Z41_0, Z41_1, Z41_2, Z41_3, Z41_4, Y41_0, Y41_1, Y41_2, Y41_3, Y41_4⟩ := cf5 BK291; obtain ⟨HGz42, hgz42⟩ := HI290.out; have Z42_0 := cellS54_0 HGz42; have Z42_1 := cellS54_1 HGz42; have Y42_0 := blk_frozen HGz42 0; have Y42_1 := blk_frozen HGz42 1; clear HGz42 hgz42) | (go_at_call 28; (with_reducible refine (impl_ShowRec.calls k t292 t295 t298 (wrap64 (t301 - 1)) t302 t304 _ A7.out).mono ?_); rintro e w43 ⟨rfl, hb⟩; replace BK289 := Aside0.mk (blk_below (g := gb289) (o := .cells #[.int .i64 0, .int .i64 0, .int .i64 0, .int .i64 0, .string (⟨#[]⟩ : ByteArray)] 34 (0, 0)) bkk hb); replace BK291 := Aside0.mk (blk_below (g := gb291) (o := .cells #[.int .i64 t292, .int .i64 t295, .int .i64 t298, .int .i64 (wrap64 (t301 - 1)), .string t302] 34 (0, 0)) bkk hb); replace HB := Aside0.mk (below_step (by repeat (first | (with_reducible first | exact HB.out | apply below_alloc | apply pw_below_drewN | apply below_drew1 | refine below_set ?_ (IsS54.ge HI290.out) | refine below_set ?_ GE289.out | refine below_set ?_ GE291.out) | exact HB.out)) hb); replace HI290 := Aside0.mk (IsS54.below (show IsS54 w ((w40.setCell ⟨gb291, 3, none⟩ (.int .i64 (wrap64 (t301 - 1)))).setCell ⟨gb291, 4, none⟩ (.string t302)) gb290 t302 true from by repeat (first | (with_reducible first | exact HI290.out | apply IsS54.alloc | apply IsS54.drewN | apply IsS54.drew | apply IsS54.set_0 | apply IsS54.set_1 | refine IsS54.far ?_ NB290_289.out _ | refine IsS54.far ?_ NB290_291.out _) | exact HI290.out)) hb); (try clear hb); have hnb44 := NB289_290.out; have hnc44 := NB290_289.out; obtain ⟨Z45_0, Z45_1, Z45_2, Z45_3, Z45_4, Y45_0, Y45_1, Y45_2, Y45_3, Y45_4⟩ := cf5 BK289))
   refine bodyPost_ret (results_ct rfl _ _ gb289 34 #[.int .i64 0, .int .i64 0, .int .i64 0, .int .i64 0, .string (⟨#[]⟩ : ByteArray)] (0, 0) _ rfl bkk Try.underlying34 rfl (by kernel_rfl)) rfl ?_
   exact ⟨fe, by repeat (first | (with_reducible first | exact HB.out | apply below_alloc | apply pw_below_drewN | apply below_drew1 | refine below_set ?_ (IsS54.ge HI290.out) | refine below_set ?_ GE289.out | refine below_set ?_ GE291.out) | exact HB.out)⟩
 ·replace c6 := Bool.eq_false_iff.mpr c6
  subst c6
  replace H := iF H
  simp only [Option.some.injEq, Prod.mk.injEq] at H
  obtain ⟨rfl, rfl, rfl, rfl, rfl, rfl⟩ := H
  go_enter Try.func13, Try.ntmps13
  go_wp2_with (first | ((with_reducible refine gD 2 rfl ?_); refine boxZ 2 #[.int .i64 0, .int .i64 0, .int .i64 0, .int .i64 0, .string (⟨#[]⟩ : ByteArray)] 34 ?_; intro gb289 hg w46 hbox hb; have BK289 := Aside0.mk hbox; have GW289 := gw (w := w) hg; have GE289 := gw (w := w) hg; replace HB := bs (w := w) hb; clear hb hbox hg) | ((with_reducible refine gD 8 rfl ?_); refine boxZ 8 #[.string a0, .bool true] 54 ?_; intro gb290 hg w47 hbox hb; have BK290 := Aside0.mk hbox; have GW290 := gw (w := w) hg; have GE290 := gw (w := w) hg; replace HB := bs (w := w) hb; have NB289_290 := nl BK289 hg; have NB290_289 := nr BK289 hg; replace BK289 := bv BK289 hb; clear hb hbox hg) | ((with_reducible refine gD 5 rfl ?_); refine boxZ 5 #[.int .i64 0, .int .i64 0, .int .i64 0, .int .i64 0, .string (⟨#[]⟩ : ByteArray)] 34 ?_; intro gb291 hg w48 hbox hb; have BK291 := Aside0.mk hbox; have GW291 := gw (w := w) hg; have GE291 := gw (w := w) hg; replace HB := bs (w := w) hb; have NB289_291 := nl BK289 hg; have NB291_289 := nr BK289 hg; replace BK289 := bv BK289 hb; have NB290_291 := nl BK290 hg; have NB291_290 := nr BK290 hg; replace BK290 := bv BK290 hb; clear hb hbox hg; have hnb49 := NB291_289.out; have hnc49 := NB289_291.out; have hnb50 := NB291_290.out; have hnc50 := NB290_291.out; obtain ⟨Z51_0, Z51_1, Z51_2, Z51_3, Z51_4, Y51_0, Y51_1, Y51_2, Y51_3, Y51_4⟩ := cf5 BK291; have HI290 := Aside0.mk (show IsS54 w _ _ _ _ from ⟨BK290.out, GW290.out⟩)) | ((with_reducible refine gC 26 rfl ?_); refine goesZ (some 11) rfl Try.func26 #[.pointer (some ⟨gb290, 0, none⟩)] ?_; (with_reducible refine (impl_reader_kind.calls gb290 a0 true t292 t293 t294 w _ ?side1 ?side2 A2.out).mono ?_); (case side1 => repeat (first | (with_reducible first | exact HI290.out | apply IsS54.alloc | apply IsS54.drewN | apply IsS54.drew | apply IsS54.set_0 | apply IsS54.set_1 | refine IsS54.far ?_ NB290_289.out _ | refine IsS54.far ?_ NB290_291.out _) | exact HI290.out)); (case side2 => repeat (first | (with_reducible first | exact HB.out | apply below_alloc | apply pw_below_drewN | apply below_drew1 | refine below_set ?_ (IsS54.ge HI290.out) | refine below_set ?_ GE289.out | refine below_set ?_ GE291.out) | exact HB.out)); rintro e w52 ⟨rfl, hi, hb, hk⟩; refine ⟨_, rfl, ?_⟩; replace BK289 := Aside0.mk (KeepBut.blk hk (g' := gb289) (o := .cells #[.int .i64 0, .int .i64 0, .int .i64 0, .int .i64 0, .string (⟨#[]⟩ : ByteArray)] 34 (0, 0)) bkk NB289_290.out (by simp)); replace BK291 := Aside0.mk (KeepBut.blk hk (g' := gb291) (o := .cells #[.int .i64 0, .int .i64 0, .int .i64 0, .int .i64 0, .string (⟨#[]⟩ : ByteArray)] 34 (0, 0)) bkk NB291_290.out (by simp)); replace HB := Aside0.mk (hb); replace HI290 := Aside0.mk (hi); (try clear hb hk hi); obtain ⟨Z53_0, Z53_1, Z53_2, Z53_3, Z53_4, Y53_0, Y53_1, Y53_2, Y53_3, Y53_4⟩ := cf5 BK291) | ((with_reducible refine gC 27 rfl ?_); refine goesZ (some 14) rfl Try.func27 #[.pointer (some ⟨gb290, 0, none⟩)] ?_; (with_reducible refine (impl_reader_num.calls k gb290 t293 t294 t295 t296 t297 w _ ?side1 ?side2 A3.out).mono ?_); (case side1 => repeat (first | (with_reducible first | exact HI290.out | apply IsS54.alloc | apply IsS54.drewN | apply IsS54.drew | apply IsS54.set_0 | apply IsS54.set_1 | refine IsS54.far ?_ NB290_289.out _ | refine IsS54.far ?_ NB290_291.out _) | exact HI290.out)); (case side2 => repeat (first | (with_reducible first | exact HB.out | apply below_alloc | apply pw_below_drewN | apply below_drew1 | refine below_set ?_ (IsS54.ge HI290.out) | refine below_set ?_ GE289.out | refine below_set ?_ GE291.out) | exact HB.out)); rintro e w54 ⟨rfl, hi, hb, hk⟩; refine ⟨_, rfl, ?_⟩; replace BK289 := Aside0.mk (KeepBut.blk hk (g' := gb289) (o := .cells #[.int .i64 0, .int .i64 0, .int .i64 0, .int .i64 0, .string (⟨#[]⟩ : ByteArray)] 34 (0, 0)) bkk NB289_290.out (by simp)); replace BK291 := Aside0.mk (KeepBut.blk hk (g' := gb291) (o := .cells #[.int .i64 t292, .int .i64 0, .int .i64 0, .int .i64 0, .string (⟨#[]⟩ : ByteArray)] 34 (0, 0)) bkk NB291_290.out (by simp)); replace HB := Aside0.mk (hb); replace HI290 := Aside0.mk (hi); (try clear hb hk hi); obtain ⟨Z55_0, Z55_1, Z55_2, Z55_3, Z55_4, Y55_0, Y55_1, Y55_2, Y55_3, Y55_4⟩ := cf5 BK291) | ((with_reducible refine gC 27 rfl ?_); refine goesZ (some 17) rfl Try.func27 #[.pointer (some ⟨gb290, 0, none⟩)] ?_; (with_reducible refine (impl_reader_num.calls k gb290 t296 t297 t298 t299 t300 w _ ?side1 ?side2 A4.out).mono ?_); (case side1 => repeat (first | (with_reducible first | exact HI290.out | apply IsS54.alloc | apply IsS54.drewN | apply IsS54.drew | apply IsS54.set_0 | apply IsS54.set_1 | refine IsS54.far ?_ NB290_289.out _ | refine IsS54.far ?_ NB290_291.out _) | exact HI290.out)); (case side2 => repeat (first | (with_reducible first | exact HB.out | apply below_alloc | apply pw_below_drewN | apply below_drew1 | refine below_set ?_ (IsS54.ge HI290.out) | refine below_set ?_ GE289.out | refine below_set ?_ GE291.out) | exact HB.out)); rintro e w56 ⟨rfl, hi, hb, hk⟩; refine ⟨_, rfl, ?_⟩; replace BK289 := Aside0.mk (KeepBut.blk hk (g' := gb289) (o := .cells #[.int .i64 0, .int .i64 0, .int .i64 0, .int .i64 0, .string (⟨#[]⟩ : ByteArray)] 34 (0, 0)) bkk NB289_290.out (by simp)); replace BK291 := Aside0.mk (KeepBut.blk hk (g' := gb291) (o := .cells #[.int .i64 t292, .int .i64 t295, .int .i64 0, .int .i64 0, .string (⟨#[]⟩ : ByteArray)] 34 (0, 0)) bkk NB291_290.out (by simp)); replace HB := Aside0.mk (hb); replace HI290 := Aside0.mk (hi); (try clear hb hk hi); obtain ⟨Z57_0, Z57_1, Z57_2, Z57_3, Z57_4, Y57_0, Y57_1, Y57_2, Y57_3, Y57_4⟩ := cf5 BK291) | ((with_reducible refine gC 27 rfl ?_); refine goesZ (some 20) rfl Try.func27 #[.pointer (some ⟨gb290, 0, none⟩)] ?_; (with_reducible refine (impl_reader_num.calls k gb290 t299 t300 t301 t302 false w _ ?side1 ?side2 A5.out).mono ?_); (case side1 => repeat (first | (with_reducible first | exact HI290.out | apply IsS54.alloc | apply IsS54.drewN | apply IsS54.drew | apply IsS54.set_0 | apply IsS54.set_1 | refine IsS54.far ?_ NB290_289.out _ | refine IsS54.far ?_ NB290_291.out _) | exact HI290.out)); (case side2 => repeat (first | (with_reducible first | exact HB.out | apply below_alloc | apply pw_below_drewN | apply below_drew1 | refine below_set ?_ (IsS54.ge HI290.out) | refine below_set ?_ GE289.out | refine below_set ?_ GE291.out) | exact HB.out)); rintro e w58 ⟨rfl, hi, hb, hk⟩; refine ⟨_, rfl, ?_⟩; replace BK289 := Aside0.mk (KeepBut.blk hk (g' := gb289) (o := .cells #[.int .i64 0, .int .i64 0, .int .i64 0, .int .i64 0, .string (⟨#[]⟩ : ByteArray)] 34 (0, 0)) bkk NB289_290.out (by simp)); replace BK291 := Aside0.mk (KeepBut.blk hk (g' := gb291) (o := .cells #[.int .i64 t292, .int .i64 t295, .int .i64 t298, .int .i64 0, .string (⟨#[]⟩ : ByteArray)] 34 (0, 0)) bkk NB291_290.out (by simp)); replace HB := Aside0.mk (hb); replace HI290 := Aside0.mk (hi); (try clear hb hk hi); obtain ⟨Z59_0, Z59_1, Z59_2, Z59_3, Z59_4, Y59_0, Y59_1, Y59_2, Y59_3, Y59_4⟩ := cf5 BK291; obtain ⟨HGz60, hgz60⟩ := HI290.out; have Z60_0 := cellS54_0 HGz60; have Z60_1 := cellS54_1 HGz60; have Y60_0 := blk_frozen HGz60 0; have Y60_1 := blk_frozen HGz60 1; clear HGz60 hgz60; have hnb61 := NB289_290.out; have hnc61 := NB290_289.out; obtain ⟨Z62_0, Z62_1, Z62_2, Z62_3, Z62_4, Y62_0, Y62_1, Y62_2, Y62_3, Y62_4⟩ := cf5 BK289))
  refine bodyPost_ret (results_ct rfl _ _ gb289 34 #[.int .i64 0, .int .i64 0, .int .i64 0, .int .i64 0, .string (⟨#[]⟩ : ByteArray)] (0, 0) _ rfl bkk Try.underlying34 rfl (by kernel_rfl)) rfl ?_
  exact ⟨fe, by repeat (first | (with_reducible first | exact HB.out | apply below_alloc | apply pw_below_drewN | apply below_drew1 | refine below_set ?_ (IsS54.ge HI290.out) | refine below_set ?_ GE289.out | refine below_set ?_ GE291.out) | exact HB.out)⟩

/-! ### impl_termsOk: function 50 -/
def impl_termsOk.l0 : Nat → Int → Int → List (S51) → Int → Int → Option (Bool)
 | 0, _, _, _, _, _ => none
 | k + 1, x1, x2, x9, x10, x11 => if x11 < x10 then (if 0 ≤ x11 then (if x11 < (x9.length : Int) then (if ((rd_T51 x9 x11).f0) < 1 then (some false) else ((impl_from.f ((rd_T51 x9 x11).f0) x1 x2).bind fun t307 => (if t307 = true then (if (((rd_T51 x9 x11).f1).size : Int) > 900 then (some false) else (impl_termsOk.l0 k ((rd_T51 x9 x11).f0) x2 x9 x10 (wrap64 (x11 + 1)))) else (some false)))) else (none)) else (none)) else (some true)
def impl_termsOk.f (k : Nat) (l0 : List (S51)) (a1 : Int) (a2 : Int) : Option (Bool) := impl_termsOk.l0 k a1 a2 l0 (l0.length : Int) 0
theorem impl_termsOk.mono_l : ∀ k, (∀ y0 y1 y2 y3 y4, LeO (impl_termsOk.l0 k y0 y1 y2 y3 y4) (impl_termsOk.l0 (k + 1) y0 y1 y2 y3 y4))
 | 0 => fun _ _ _ _ _ r h => by simp [impl_termsOk.l0] at h
 | k + 1 => by
  have ih0 := impl_termsOk.mono_l k
  ·intro y0 y1 y2 y3 y4
   unfold impl_termsOk.l0
   repeat' first
   | (with_reducible exact ih0 _ _ _ _ _)
   | (with_reducible exact LeO.refl _)
   | (with_reducible exact LeO.none _)
   | (with_reducible refine LeO.ite ?_ ?_)
   | (with_reducible refine LeO.bind ?_ (fun _ => ?_))
   | exact ih0 _ _ _ _ _
   | exact LeO.none _
   | refine LeO.ite ?_ ?_
   | refine LeO.bind ?_ (fun _ => ?_)
theorem impl_termsOk.mono : ∀ a0 a1 a2 k, LeO (impl_termsOk.f k a0 a1 a2) (impl_termsOk.f (k + 1) a0 a1 a2) := by
 intro a0 a1 a2 k
 have ih0 := impl_termsOk.mono_l k
 unfold impl_termsOk.f
 repeat' first
  | (with_reducible exact ih0 _ _ _ _ _)
  | (with_reducible exact LeO.refl _)
  | (with_reducible exact LeO.none _)
  | (with_reducible refine LeO.ite ?_ ?_)
  | (with_reducible refine LeO.bind ?_ (fun _ => ?_))
  | exact ih0 _ _ _ _ _
  | exact LeO.none _
  | refine LeO.ite ?_ ?_
  | refine LeO.bind ?_ (fun _ => ?_)
set_option maxHeartbeats 8000000 in
set_option maxRecDepth 100000 in
theorem impl_termsOk.calls (k : Nat) (A0 : Option Addr) (c0 : Nat) (l0 : List (S51)) (a1 : Int) (a2 : Int) (r : Bool) (w : World) (hr0 : Kd.C k51 w A0 l0.length l0) (hc0 : l0.length ≤ c0) (h : impl_termsOk.f k l0 a1 a2 = some r) :
 Calls Try.prog 50 #[.slice A0 l0.length c0, .int .i64 a1, .int .i64 a2] w fun e w' => e = .returned (.bool r) ∧ Below w.heap.size w w' := by
 have hu51 := Try.underlying51
 have HR0 := Aside0.mk hr0
 have HC0 := Aside0.mk hc0
 clear hr0 hc0
 have HB := Aside0.mk (Below.refl w.heap.size w)
 have H : (impl_termsOk.l0 k a1 a2 l0 (l0.length : Int) 0) = some r := h
 clear h
 have H' := Aside0.mk H
 clear H
 go_enter Try.func50, Try.ntmps50
 go_wp2
 go_loopg [1, 11] k (fun kq v1 v11 w' => ∃ (x1_1 : Int) (x11_1 : Int), v1 = .int .i64 x1_1 ∧ v11 = .int .i64 x11_1 ∧ Aside0 (impl_termsOk.l0 kq x1_1 a2 l0 (l0.length : Int) x11_1 = some r) ∧ Aside0 (kq ≤ k) ∧ Aside0 (Below w.heap.size w w'))
 case atStart => exact ⟨(a1), (0), fa, fa, H', ⟨Nat.le_refl _⟩, ⟨bl⟩⟩
 case round =>
  clear H'
  try clear p2
  obtain ⟨x1_1, x11_1, rfl, rfl, HA, HK1, HB⟩ := hrel
  cases gk with
  | zero => exact absurd HA.out (by simp [impl_termsOk.l0])
  | succ k1 =>
   have H := HA.out
   clear HA
   simp only [impl_termsOk.l0] at H
   by_cases c4 : x11_1 < (l0.length : Int)
   ·rw [if_pos c4] at H
    have c4b0 : decide (x11_1 < (l0.length : Int)) = true := decide_eq_true c4
    clear c4
    by_cases c5 : 0 ≤ x11_1
    ·rw [if_pos c5] at H
     have c5b0 : decide (0 ≤ x11_1) = true := decide_eq_true c5
     clear c5
     by_cases c6 : x11_1 < (l0.length : Int)
     ·rw [if_pos c6] at H
      have c6b0 : decide (x11_1 < (l0.length : Int)) = true := decide_eq_true c6
      clear c6
      by_cases c7 : ((rd_T51 l0 x11_1).f0) < 1
      ·rw [if_pos c7] at H
       have c7b0 : decide (((rd_T51 l0 x11_1).f0) < 1) = true := decide_eq_true c7
       clear c7
       obtain rfl := Option.some.inj H
       have p305 : 0 ≤ (x11_1 : Int) := of_decide_eq_true am
       have q305 : x11_1 < (l0.length : Int) := of_decide_eq_true am
       obtain ⟨ad305, e305, hx305_0, hx305_1⟩ := at_T51 HR0.out x11_1 p305 q305
       cases e305
       replace hx305_0 := cz HB hx305_0
       replace hx305_1 := cz HB hx305_1
       replace p305 := eq_true p305
       replace q305 := eq_true q305
       go_wp2_with (first | ((with_reducible refine gD 8 rfl ?_); (try (refine gate_guard rfl ?_; dsimp only)); refine boxZ 8 #[.int .i64 0, .string (⟨#[]⟩ : ByteArray)] 51 ?_; intro gb306 hg w8 hbox hb; have BK306 := Aside0.mk hbox; have GW306 := gw (w := w) hg; have GE306 := gw (w := w) hg; replace HB := bs (w := w) hb; clear hb hbox hg; obtain ⟨Z9_0, Z9_1, Y9_0, Y9_1⟩ := cf2 BK306))
       go_ret
       exact ⟨fe, bl⟩
      ·rw [if_neg c7] at H
       have c7b0 : decide (((rd_T51 l0 x11_1).f0) < 1) = false := decide_eq_false c7
       clear c7
       obtain ⟨t307, A10, H⟩ := bd H
       by_cases c11 : t307 = true
       ·subst c11
        replace H := iT H
        by_cases c12 : (((rd_T51 l0 x11_1).f1).size : Int) > 900
        ·rw [if_pos c12] at H
         have c12b0 : decide (900 < (((rd_T51 l0 x11_1).f1).size : Int)) = true := decide_eq_true c12
         have c12b1 : decide (900 < ((rd_T51 l0 x11_1).f1).size) = true := decide_eq_true (by omega)
         clear c12
         obtain rfl := Option.some.inj H
         have p305 : 0 ≤ (x11_1 : Int) := of_decide_eq_true am
         have q305 : x11_1 < (l0.length : Int) := of_decide_eq_true am
         obtain ⟨ad305, e305, hx305_0, hx305_1⟩ := at_T51 HR0.out x11_1 p305 q305
         cases e305
         replace hx305_0 := cz HB hx305_0
         replace hx305_1 := cz HB hx305_1
         replace p305 := eq_true p305
         replace q305 := eq_true q305
         go_wp2_with (first | ((with_reducible refine gD 8 rfl ?_); (try (refine gate_guard rfl ?_; dsimp only)); refine boxZ 8 #[.int .i64 0, .string (⟨#[]⟩ : ByteArray)] 51 ?_; intro gb306 hg w13 hbox hb; have BK306 := Aside0.mk hbox; have GW306 := gw (w := w) hg; have GE306 := gw (w := w) hg; replace HB := bs (w := w) hb; clear hb hbox hg; obtain ⟨Z14_0, Z14_1, Y14_0, Y14_1⟩ := cf2 BK306) | (go_at_call 33; (with_reducible refine (impl_from.calls ((rd_T51 l0 x11_1).f0) x1_1 a2 true _ A10.out).mono ?_); rintro e w' ⟨rfl, ⟨nd, rfl⟩⟩))
         go_ret
         exact ⟨fe, bl⟩
        ·rw [if_neg c12] at H
         have c12b0 : decide (900 < (((rd_T51 l0 x11_1).f1).size : Int)) = false := decide_eq_false c12
         have c12b1 : decide (900 < ((rd_T51 l0 x11_1).f1).size) = false := decide_eq_false (by omega)
         clear c12
         have H' := Aside0.mk H
         clear H
         have p305 : 0 ≤ (x11_1 : Int) := of_decide_eq_true am
         have q305 : x11_1 < (l0.length : Int) := of_decide_eq_true am
         obtain ⟨ad305, e305, hx305_0, hx305_1⟩ := at_T51 HR0.out x11_1 p305 q305
         cases e305
         replace hx305_0 := cz HB hx305_0
         replace hx305_1 := cz HB hx305_1
         replace p305 := eq_true p305
         replace q305 := eq_true q305
         go_wp2_with (first | ((with_reducible refine gD 8 rfl ?_); (try (refine gate_guard rfl ?_; dsimp only)); refine boxZ 8 #[.int .i64 0, .string (⟨#[]⟩ : ByteArray)] 51 ?_; intro gb306 hg w15 hbox hb; have BK306 := Aside0.mk hbox; have GW306 := gw (w := w) hg; have GE306 := gw (w := w) hg; replace HB := bs (w := w) hb; clear hb hbox hg; obtain ⟨Z16_0, Z16_1, Y16_0, Y16_1⟩ := cf2 BK306) | (go_at_call 33; (with_reducible refine (impl_from.calls ((rd_T51 l0 x11_1).f0) x1_1 a2 true _ A10.out).mono ?_); rintro e w' ⟨rfl, ⟨nd, rfl⟩⟩))
         go_roundg k1
         case measure => have := HK1.out; omega
         case rel => exact ⟨((rd_T51 l0 x11_1).f0), (wrap64 (x11_1 + 1)), fa, fa, H', ⟨by have := HK1.out; omega⟩, ⟨bl⟩⟩
       ·replace c11 := Bool.eq_false_iff.mpr c11
        subst c11
        replace H := iF H
        obtain rfl := Option.some.inj H
        have p305 : 0 ≤ (x11_1 : Int) := of_decide_eq_true am
        have q305 : x11_1 < (l0.length : Int) := of_decide_eq_true am
        obtain ⟨ad305, e305, hx305_0, hx305_1⟩ := at_T51 HR0.out x11_1 p305 q305
        cases e305
        replace hx305_0 := cz HB hx305_0
        replace hx305_1 := cz HB hx305_1
        replace p305 := eq_true p305
        replace q305 := eq_true q305
        go_wp2_with (first | ((with_reducible refine gD 8 rfl ?_); (try (refine gate_guard rfl ?_; dsimp only)); refine boxZ 8 #[.int .i64 0, .string (⟨#[]⟩ : ByteArray)] 51 ?_; intro gb306 hg w17 hbox hb; have BK306 := Aside0.mk hbox; have GW306 := gw (w := w) hg; have GE306 := gw (w := w) hg; replace HB := bs (w := w) hb; clear hb hbox hg; obtain ⟨Z18_0, Z18_1, Y18_0, Y18_1⟩ := cf2 BK306) | (go_at_call 33; (with_reducible refine (impl_from.calls ((rd_T51 l0 x11_1).f0) x1_1 a2 false _ A10.out).mono ?_); rintro e w' ⟨rfl, ⟨nd, rfl⟩⟩))
        go_ret
        exact ⟨fe, bl⟩
     ·rw [if_neg c6] at H
      exact absurd H (by simp)
    ·rw [if_neg c5] at H
     exact absurd H (by simp)
   ·rw [if_neg c4] at H
    have c4b0 : decide (x11_1 < (l0.length : Int)) = false := decide_eq_false c4
    clear c4
    obtain rfl := Option.some.inj H
    go_wp2
    go_ret
    exact ⟨fe, bl⟩

/-! ### impl_WalOk: function 29 -/
def impl_WalOk.f (k : Nat) (a0_0 : Int) (a0_1 : Int) (a0_2 : Int) (a0_3 : Int) (l0_4 : List (S51)) : Option (Bool) := (impl_from.f a0_0 0 100000).bind fun t309 => (if t309 = true then ((impl_isVote.f a0_1).bind fun t310 => (if t310 = true then ((impl_isPlace.f a0_2 a0_3).bind fun t311 => (if t311 = true then (if a0_3 ≤ a0_0 then (if (l0_4.length : Int) ≤ 60 then ((impl_termsOk.f k l0_4 a0_3 a0_0).bind fun t312 => (if t312 = true then (some (decide ((wrap64 (a0_2 + (l0_4.length : Int))) ≤ 100000))) else (some false))) else (some false)) else (some false)) else (some false))) else (some false))) else (some false))
theorem impl_WalOk.mono : ∀ a0 a1 a2 a3 a4 k, LeO (impl_WalOk.f k a0 a1 a2 a3 a4) (impl_WalOk.f (k + 1) a0 a1 a2 a3 a4) := by
 intro a0 a1 a2 a3 a4 k
 unfold impl_WalOk.f
 repeat' first
  | (with_reducible exact impl_termsOk.mono _ _ _ _)
  | (with_reducible exact LeO.refl _)
  | (with_reducible exact LeO.none _)
  | (with_reducible refine LeO.ite ?_ ?_)
  | (with_reducible refine LeO.bind ?_ (fun _ => ?_))
  | exact impl_termsOk.mono _ _ _ _
  | exact LeO.none _
  | refine LeO.ite ?_ ?_
  | refine LeO.bind ?_ (fun _ => ?_)
set_option maxHeartbeats 8000000 in
set_option maxRecDepth 100000 in
theorem impl_WalOk.calls (k : Nat) (a0_0 : Int) (a0_1 : Int) (a0_2 : Int) (a0_3 : Int) (A0_4 : Option Addr) (c0_4 : Nat) (l0_4 : List (S51)) (r : Bool) (w : World) (hr0_4 : Kd.C k51 w A0_4 l0_4.length l0_4) (hc0_4 : l0_4.length ≤ c0_4) (h : impl_WalOk.f k a0_0 a0_1 a0_2 a0_3 l0_4 = some r) :
 Calls Try.prog 29 #[.agg #[.int .i64 a0_0, .int .i64 a0_1, .int .i64 a0_2, .int .i64 a0_3, .slice A0_4 l0_4.length c0_4]] w fun e w' => e = .returned (.bool r) ∧ Below w.heap.size w w' := by
 have hu24 := Try.underlying24
 have HR0_4 := Aside0.mk hr0_4
 have HC0_4 := Aside0.mk hc0_4
 clear hr0_4 hc0_4
 have HB := Aside0.mk (Below.refl w.heap.size w)
 have H : ((impl_from.f a0_0 0 100000).bind fun t309 => (if t309 = true then ((impl_isVote.f a0_1).bind fun t310 => (if t310 = true then ((impl_isPlace.f a0_2 a0_3).bind fun t311 => (if t311 = true then (if a0_3 ≤ a0_0 then (if (l0_4.length : Int) ≤ 60 then ((impl_termsOk.f k l0_4 a0_3 a0_0).bind fun t312 => (if t312 = true then (some (decide ((wrap64 (a0_2 + (l0_4.length : Int))) ≤ 100000))) else (some false))) else (some false)) else (some false)) else (some false))) else (some false))) else (some false))) = some r := h
 clear h
 obtain ⟨t309, A2, H⟩ := bd H
 by_cases c3 : t309 = true
 ·subst c3
  replace H := iT H
  obtain ⟨t310, A4, H⟩ := bd H
  by_cases c5 : t310 = true
  ·subst c5
   replace H := iT H
   obtain ⟨t311, A6, H⟩ := bd H
   by_cases c7 : t311 = true
   ·subst c7
    replace H := iT H
    by_cases c8 : a0_3 ≤ a0_0
    ·rw [if_pos c8] at H
     have c8b0 : decide (a0_3 ≤ a0_0) = true := decide_eq_true c8
     clear c8
     by_cases c9 : (l0_4.length : Int) ≤ 60
     ·rw [if_pos c9] at H
      have c9b0 : decide ((l0_4.length : Int) ≤ 60) = true := decide_eq_true c9
      have c9b1 : decide (l0_4.length ≤ 60) = true := decide_eq_true (by omega)
      clear c9
      obtain ⟨t312, A10, H⟩ := bd H
      by_cases c11 : t312 = true
      ·subst c11
       replace H := iT H
       obtain rfl := Option.some.inj H
       go_enter Try.func29, Try.ntmps29
       go_wp2_with (first | ((with_reducible refine gD 1 rfl ?_); (try (refine gate_guard rfl ?_; dsimp only)); refine boxZ 1 #[.int .i64 a0_0, .int .i64 a0_1, .int .i64 a0_2, .int .i64 a0_3, .slice A0_4 l0_4.length c0_4] 24 ?_; intro gb308 hg w12 hbox hb; have BK308 := Aside0.mk hbox; have GW308 := gw (w := w) hg; have GE308 := gw (w := w) hg; replace HB := bs (w := w) hb; clear hb hbox hg; obtain ⟨Z13_0, Z13_1, Z13_2, Z13_3, Z13_4, Y13_0, Y13_1, Y13_2, Y13_3, Y13_4⟩ := cf5 BK308) | ((with_reducible refine gC 33 rfl ?_); refine goesZ (some 5) rfl Try.func33 #[.int .i64 a0_0, .int .i64 0, .int .i64 100000] ?_; (with_reducible refine (impl_from.calls a0_0 0 100000 true _ A2.out).mono ?_); rintro e w' ⟨rfl, ⟨nd, rfl⟩⟩; refine ⟨_, rfl, ?_⟩) | (go_at_call 48; (with_reducible refine (impl_isVote.calls a0_1 true _ A4.out).mono ?_); rintro e w' ⟨rfl, ⟨nd, rfl⟩⟩) | (go_at_call 49; (with_reducible refine (impl_isPlace.calls a0_2 a0_3 true _ A6.out).mono ?_); rintro e w' ⟨rfl, ⟨nd, rfl⟩⟩) | (go_at_call 50; (with_reducible refine (impl_termsOk.calls k _ _ l0_4 a0_3 a0_0 true _ ?side1 ?side2 A10.out).mono ?_); (case side1 => exact ca (Kd.C_below HR0_4.out bl)); (case side2 => exact HC0_4.out); rintro e w14 ⟨rfl, hb⟩; replace BK308 := bv BK308 hb; replace HB := bs (w := w) hb; (try clear hb); obtain ⟨Z15_0, Z15_1, Z15_2, Z15_3, Z15_4, Y15_0, Y15_1, Y15_2, Y15_3, Y15_4⟩ := cf5 BK308))
       go_ret
       exact ⟨fe, bl⟩
      ·replace c11 := Bool.eq_false_iff.mpr c11
       subst c11
       replace H := iF H
       obtain rfl := Option.some.inj H
       go_enter Try.func29, Try.ntmps29
       go_wp2_with (first | ((with_reducible refine gD 1 rfl ?_); (try (refine gate_guard rfl ?_; dsimp only)); refine boxZ 1 #[.int .i64 a0_0, .int .i64 a0_1, .int .i64 a0_2, .int .i64 a0_3, .slice A0_4 l0_4.length c0_4] 24 ?_; intro gb308 hg w16 hbox hb; have BK308 := Aside0.mk hbox; have GW308 := gw (w := w) hg; have GE308 := gw (w := w) hg; replace HB := bs (w := w) hb; clear hb hbox hg; obtain ⟨Z17_0, Z17_1, Z17_2, Z17_3, Z17_4, Y17_0, Y17_1, Y17_2, Y17_3, Y17_4⟩ := cf5 BK308) | ((with_reducible refine gC 33 rfl ?_); refine goesZ (some 5) rfl Try.func33 #[.int .i64 a0_0, .int .i64 0, .int .i64 100000] ?_; (with_reducible refine (impl_from.calls a0_0 0 100000 true _ A2.out).mono ?_); rintro e w' ⟨rfl, ⟨nd, rfl⟩⟩; refine ⟨_, rfl, ?_⟩) | (go_at_call 48; (with_reducible refine (impl_isVote.calls a0_1 true _ A4.out).mono ?_); rintro e w' ⟨rfl, ⟨nd, rfl⟩⟩) | (go_at_call 49; (with_reducible refine (impl_isPlace.calls a0_2 a0_3 true _ A6.out).mono ?_); rintro e w' ⟨rfl, ⟨nd, rfl⟩⟩) | (go_at_call 50; (with_reducible refine (impl_termsOk.calls k _ _ l0_4 a0_3 a0_0 false _ ?side1 ?side2 A10.out).mono ?_); (case side1 => exact ca (Kd.C_below HR0_4.out bl)); (case side2 => exact HC0_4.out); rintro e w18 ⟨rfl, hb⟩; replace BK308 := bv BK308 hb; replace HB := bs (w := w) hb; (try clear hb)))
       go_ret
       exact ⟨fe, bl⟩
     ·rw [if_neg c9] at H
      have c9b0 : decide ((l0_4.length : Int) ≤ 60) = false := decide_eq_false c9
      have c9b1 : decide (l0_4.length ≤ 60) = false := decide_eq_false (by omega)
      clear c9
      obtain rfl := Option.some.inj H
      go_enter Try.func29, Try.ntmps29
      go_wp2_with (first | ((with_reducible refine gD 1 rfl ?_); (try (refine gate_guard rfl ?_; dsimp only)); refine boxZ 1 #[.int .i64 a0_0, .int .i64 a0_1, .int .i64 a0_2, .int .i64 a0_3, .slice A0_4 l0_4.length c0_4] 24 ?_; intro gb308 hg w19 hbox hb; have BK308 := Aside0.mk hbox; have GW308 := gw (w := w) hg; have GE308 := gw (w := w) hg; replace HB := bs (w := w) hb; clear hb hbox hg; obtain ⟨Z20_0, Z20_1, Z20_2, Z20_3, Z20_4, Y20_0, Y20_1, Y20_2, Y20_3, Y20_4⟩ := cf5 BK308) | ((with_reducible refine gC 33 rfl ?_); refine goesZ (some 5) rfl Try.func33 #[.int .i64 a0_0, .int .i64 0, .int .i64 100000] ?_; (with_reducible refine (impl_from.calls a0_0 0 100000 true _ A2.out).mono ?_); rintro e w' ⟨rfl, ⟨nd, rfl⟩⟩; refine ⟨_, rfl, ?_⟩) | (go_at_call 48; (with_reducible refine (impl_isVote.calls a0_1 true _ A4.out).mono ?_); rintro e w' ⟨rfl, ⟨nd, rfl⟩⟩) | (go_at_call 49; (with_reducible refine (impl_isPlace.calls a0_2 a0_3 true _ A6.out).mono ?_); rintro e w' ⟨rfl, ⟨nd, rfl⟩⟩))
      go_ret
      exact ⟨fe, bl⟩
    ·rw [if_neg c8] at H
     have c8b0 : decide (a0_3 ≤ a0_0) = false := decide_eq_false c8
     clear c8
     obtain rfl := Option.some.inj H
     go_enter Try.func29, Try.ntmps29
     go_wp2_with (first | ((with_reducible refine gD 1 rfl ?_); (try (refine gate_guard rfl ?_; dsimp only)); refine boxZ 1 #[.int .i64 a0_0, .int .i64 a0_1, .int .i64 a0_2, .int .i64 a0_3, .slice A0_4 l0_4.length c0_4] 24 ?_; intro gb308 hg w21 hbox hb; have BK308 := Aside0.mk hbox; have GW308 := gw (w := w) hg; have GE308 := gw (w := w) hg; replace HB := bs (w := w) hb; clear hb hbox hg; obtain ⟨Z22_0, Z22_1, Z22_2, Z22_3, Z22_4, Y22_0, Y22_1, Y22_2, Y22_3, Y22_4⟩ := cf5 BK308) | ((with_reducible refine gC 33 rfl ?_); refine goesZ (some 5) rfl Try.func33 #[.int .i64 a0_0, .int .i64 0, .int .i64 100000] ?_; (with_reducible refine (impl_from.calls a0_0 0 100000 true _ A2.out).mono ?_); rintro e w' ⟨rfl, ⟨nd, rfl⟩⟩; refine ⟨_, rfl, ?_⟩) | (go_at_call 48; (with_reducible refine (impl_isVote.calls a0_1 true _ A4.out).mono ?_); rintro e w' ⟨rfl, ⟨nd, rfl⟩⟩) | (go_at_call 49; (with_reducible refine (impl_isPlace.calls a0_2 a0_3 true _ A6.out).mono ?_); rintro e w' ⟨rfl, ⟨nd, rfl⟩⟩))
     go_ret
     exact ⟨fe, bl⟩
   ·replace c7 := Bool.eq_false_iff.mpr c7
    subst c7
    replace H := iF H
    obtain rfl := Option.some.inj H
    go_enter Try.func29, Try.ntmps29
    go_wp2_with (first | ((with_reducible refine gD 1 rfl ?_); (try (refine gate_guard rfl ?_; dsimp only)); refine boxZ 1 #[.int .i64 a0_0, .int .i64 a0_1, .int .i64 a0_2, .int .i64 a0_3, .slice A0_4 l0_4.length c0_4] 24 ?_; intro gb308 hg w23 hbox hb; have BK308 := Aside0.mk hbox; have GW308 := gw (w := w) hg; have GE308 := gw (w := w) hg; replace HB := bs (w := w) hb; clear hb hbox hg; obtain ⟨Z24_0, Z24_1, Z24_2, Z24_3, Z24_4, Y24_0, Y24_1, Y24_2, Y24_3, Y24_4⟩ := cf5 BK308) | ((with_reducible refine gC 33 rfl ?_); refine goesZ (some 5) rfl Try.func33 #[.int .i64 a0_0, .int .i64 0, .int .i64 100000] ?_; (with_reducible refine (impl_from.calls a0_0 0 100000 true _ A2.out).mono ?_); rintro e w' ⟨rfl, ⟨nd, rfl⟩⟩; refine ⟨_, rfl, ?_⟩) | (go_at_call 48; (with_reducible refine (impl_isVote.calls a0_1 true _ A4.out).mono ?_); rintro e w' ⟨rfl, ⟨nd, rfl⟩⟩) | (go_at_call 49; (with_reducible refine (impl_isPlace.calls a0_2 a0_3 false _ A6.out).mono ?_); rintro e w' ⟨rfl, ⟨nd, rfl⟩⟩))
    go_ret
    exact ⟨fe, bl⟩
  ·replace c5 := Bool.eq_false_iff.mpr c5
   subst c5
   replace H := iF H
   obtain rfl := Option.some.inj H
   go_enter Try.func29, Try.ntmps29
   go_wp2_with (first | ((with_reducible refine gD 1 rfl ?_); (try (refine gate_guard rfl ?_; dsimp only)); refine boxZ 1 #[.int .i64 a0_0, .int .i64 a0_1, .int .i64 a0_2, .int .i64 a0_3, .slice A0_4 l0_4.length c0_4] 24 ?_; intro gb308 hg w25 hbox hb; have BK308 := Aside0.mk hbox; have GW308 := gw (w := w) hg; have GE308 := gw (w := w) hg; replace HB := bs (w := w) hb; clear hb hbox hg; obtain ⟨Z26_0, Z26_1, Z26_2, Z26_3, Z26_4, Y26_0, Y26_1, Y26_2, Y26_3, Y26_4⟩ := cf5 BK308) | ((with_reducible refine gC 33 rfl ?_); refine goesZ (some 5) rfl Try.func33 #[.int .i64 a0_0, .int .i64 0, .int .i64 100000] ?_; (with_reducible refine (impl_from.calls a0_0 0 100000 true _ A2.out).mono ?_); rintro e w' ⟨rfl, ⟨nd, rfl⟩⟩; refine ⟨_, rfl, ?_⟩) | (go_at_call 48; (with_reducible refine (impl_isVote.calls a0_1 false _ A4.out).mono ?_); rintro e w' ⟨rfl, ⟨nd, rfl⟩⟩))
   go_ret
   exact ⟨fe, bl⟩
 ·replace c3 := Bool.eq_false_iff.mpr c3
  subst c3
  replace H := iF H
  obtain rfl := Option.some.inj H
  go_enter Try.func29, Try.ntmps29
  go_wp2_with (first | ((with_reducible refine gD 1 rfl ?_); (try (refine gate_guard rfl ?_; dsimp only)); refine boxZ 1 #[.int .i64 a0_0, .int .i64 a0_1, .int .i64 a0_2, .int .i64 a0_3, .slice A0_4 l0_4.length c0_4] 24 ?_; intro gb308 hg w27 hbox hb; have BK308 := Aside0.mk hbox; have GW308 := gw (w := w) hg; have GE308 := gw (w := w) hg; replace HB := bs (w := w) hb; clear hb hbox hg; obtain ⟨Z28_0, Z28_1, Z28_2, Z28_3, Z28_4, Y28_0, Y28_1, Y28_2, Y28_3, Y28_4⟩ := cf5 BK308) | ((with_reducible refine gC 33 rfl ?_); refine goesZ (some 5) rfl Try.func33 #[.int .i64 a0_0, .int .i64 0, .int .i64 100000] ?_; (with_reducible refine (impl_from.calls a0_0 0 100000 false _ A2.out).mono ?_); rintro e w' ⟨rfl, ⟨nd, rfl⟩⟩; refine ⟨_, rfl, ?_⟩))
  go_ret
  exact ⟨fe, bl⟩

/-! ### impl_Entry: function 51 -/
def impl_Entry.f (l0 : List (S51)) : Option ((List (S51))) := if l0.length < 5864062014805 then some l0 else none
set_option maxHeartbeats 8000000 in
set_option maxRecDepth 100000 in
theorem impl_Entry.calls (A0 : Option Addr) (c0 : Nat) (l0 : List (S51)) (r : List (S51)) (w : World) (hr0 : Kd.C k51 w A0 l0.length l0) (hc0 : l0.length ≤ c0) (h : impl_Entry.f l0 = some r) :
 Calls Try.prog 51 #[.slice A0 l0.length c0] w fun e w' => ∃ v0_ : Value, e = .returned (v0_) ∧ Kd.R k51 51 w' w.heap.size (fun _ => True) v0_ r ∧ Below w.heap.size w w' := by
 have c1 : l0.length < 5864062014805 := by
  by_cases c : l0.length < 5864062014805
  ·exact c
  ·simp [impl_Entry.f, c] at h
 obtain rfl : l0 = r := by simpa [impl_Entry.f, c1] using h
 have LMc := Aside0.mk c1
 clear c1 h
 have HB := Aside0.mk (Below.refl w.heap.size w)
 cases A0 with
 | none =>
  have hl : l0 = [] := by
   rcases Nat.eq_zero_or_pos l0.length with g | g
   ·exact List.length_eq_zero_iff.1 g
   ·obtain ⟨ad, e, _⟩ := hr0.2.2 g; cases e
  subst hl
  clear hr0 hc0
  have hq := fun (w : World) (n c : Nat) => Lib.run_eql_slice_nil (P := Try.prog) w 22 51 none n c 0 0 Try.underlying22
  simp only [Option.isNone_none] at hq
  go_enter Try.func51, Try.ntmps51
  go_wp2
  go_ret
  exact ⟨_, rfl, Kd.R_nil _ _ _ _ _, bl⟩
 | some ad =>
  have HR0 := Aside0.mk hr0
  clear hr0 hc0
  have hq := fun (w : World) (n c : Nat) => Lib.run_eql_slice_nil (P := Try.prog) w 22 51 (some ad) n c 0 0 Try.underlying22
  simp only [Option.isNone_some] at hq
  go_enter Try.func51, Try.ntmps51
  go_wp2_with (first | ((with_reducible refine gD 5 rfl ?_); refine Kd.R_lit k51 _ 51 ?hg (N := 5) ?hd (xs := ([] : List (S51))) (inner := []) (ok := fun _ => True) (okp := fun _ => True) ?hr ?hp (fun _ hk => hk) trivial (Below.refl _ _) (Nat.le_refl _) (by simp) ?_; (case hd => rfl); (case hg => rfl); (case hr => first | (go_simp; done) | (go_simp; rfl)); (case hp => exact (Reps.none _ _)); intro v1 w1 ho hb hg_ hnew_; clear hg_ hnew_; have HO := Aside0.mk (Kd.R_lower ho (below_size bl)); replace HB := bs (w := w) hb; clear hb ho) | ((with_reducible refine gate_builtin (b := .append) (xs := #[.tmp 5, .tmp 6]) rfl ?_); at_builtin; refine Kd.R_append_rows k51 (w0 := w) w.heap.size rfl (.tmp 5) (.tmp 6) 22 51 (.agg #[(.int .i64 0), (.string ⟨#[]⟩)]) 24 rfl Try.underlying22 info51 rfl (by decide) (by omega) v1 [] l0 _ _ _ (fun _ => True) (fun _ => False) rfl rfl ?aO ?aR (fun _ _ h => h) (fun _ h => h.elim) ?aF ?aB ?aS ?aL ?_; (case aR => exact (Kd.C_below HR0.out bl)); (case aB => exact bl); (case aF => exact (fun _ _ => trivial)); (case aO => exact HO.out); (case aS => exact (below_size bl)); (case aL => have := LMc.out; simp; omega); intro v2 w2 ho hb hg hat; clear HO HB hg hat; have HO := Aside0.mk ho; have HB := Aside0.mk hb; clear ho hb; obtain ⟨Ao, co, eo⟩ := Kd.R_slice HO.out; subst eo))
  go_ret
  exact ⟨_, rfl, HO.out, bl⟩

/-! ### impl_copyWal: function 30 -/
def impl_copyWal.f (a0_0 : Int) (a0_1 : Int) (a0_2 : Int) (a0_3 : Int) (l0_4 : List (S51)) : Option (Int × Int × Int × Int × (List (S51))) := (impl_Entry.f l0_4).bind fun t315 => (some (a0_0, a0_1, a0_2, a0_3, t315))
set_option maxHeartbeats 8000000 in
set_option maxRecDepth 100000 in
theorem impl_copyWal.calls (a0_0 : Int) (a0_1 : Int) (a0_2 : Int) (a0_3 : Int) (A0_4 : Option Addr) (c0_4 : Nat) (l0_4 : List (S51)) (r1 : Int) (r2 : Int) (r3 : Int) (r4 : Int) (r5 : List (S51)) (w : World) (hr0_4 : Kd.C k51 w A0_4 l0_4.length l0_4) (hc0_4 : l0_4.length ≤ c0_4) (h : impl_copyWal.f a0_0 a0_1 a0_2 a0_3 l0_4 = some (r1, r2, r3, r4, r5)) :
 Calls Try.prog 30 #[.agg #[.int .i64 a0_0, .int .i64 a0_1, .int .i64 a0_2, .int .i64 a0_3, .slice A0_4 l0_4.length c0_4]] w fun e w' => ∃ v4_ : Value, e = .returned (.agg #[.int .i64 r1, .int .i64 r2, .int .i64 r3, .int .i64 r4, v4_]) ∧ Kd.R k51 51 w' w.heap.size (fun _ => True) v4_ r5 ∧ Below w.heap.size w w' := by
 have hu24 := Try.underlying24
 have HR0_4 := Aside0.mk hr0_4
 have HC0_4 := Aside0.mk hc0_4
 clear hr0_4 hc0_4
 have HB := Aside0.mk (Below.refl w.heap.size w)
 have H : ((impl_Entry.f l0_4).bind fun t315 => (some (a0_0, a0_1, a0_2, a0_3, t315))) = some (r1, r2, r3, r4, r5) := h
 clear h
 obtain ⟨t315, A2, H⟩ := bd H
 simp only [Option.some.injEq, Prod.mk.injEq] at H
 obtain ⟨rfl, rfl, rfl, rfl, rfl⟩ := H
 go_enter Try.func30, Try.ntmps30
 go_wp2_with (first | ((with_reducible refine gD 1 rfl ?_); refine boxZ 1 #[.int .i64 a0_0, .int .i64 a0_1, .int .i64 a0_2, .int .i64 a0_3, .slice A0_4 l0_4.length c0_4] 24 ?_; intro gb313 hg w3 hbox hb; have BK313 := Aside0.mk hbox; have GW313 := gw (w := w) hg; have GE313 := gw (w := w) hg; replace HB := bs (w := w) hb; clear hb hbox hg) | ((with_reducible refine gD 2 rfl ?_); refine boxZ 2 #[.int .i64 0, .int .i64 0, .int .i64 0, .int .i64 0, .slice none 0 0] 24 ?_; intro gb314 hg w4 hbox hb; have BK314 := Aside0.mk hbox; have GW314 := gw (w := w) hg; have GE314 := gw (w := w) hg; replace HB := bs (w := w) hb; have NB313_314 := nl BK313 hg; have NB314_313 := nr BK313 hg; replace BK313 := bv BK313 hb; clear hb hbox hg; have hnb5 := NB313_314.out; have hnc5 := NB314_313.out; obtain ⟨Z6_0, Z6_1, Z6_2, Z6_3, Z6_4, Y6_0, Y6_1, Y6_2, Y6_3, Y6_4⟩ := cf5 BK313) | ((with_reducible refine gC 51 rfl ?_); refine goesZ (some 5) rfl Try.func51 #[.slice A0_4 l0_4.length c0_4] ?_; (with_reducible refine (impl_Entry.calls _ _ l0_4 t315 _ ?side1 ?side2 A2.out).mono ?_); (case side1 => exact ca (Kd.C_below HR0_4.out HB.out)); (case side2 => exact HC0_4.out); rintro e w7 ⟨v316, rfl, ho0, hb⟩; refine ⟨_, rfl, ?_⟩; have HO317 := Aside0.mk (Kd.R_lower ho0 (below_size bl)); replace BK313 := bv BK313 hb; replace BK314 := bv BK314 hb; replace HB := bs (w := w) hb; (try clear hb ho0); obtain ⟨Ao8, co8, rfl⟩ := Kd.R_slice HO317.out; obtain ⟨Z9_0, Z9_1, Z9_2, Z9_3, Z9_4, Y9_0, Y9_1, Y9_2, Y9_3, Y9_4⟩ := cf5 BK313; obtain ⟨Z10_0, Z10_1, Z10_2, Z10_3, Z10_4, Y10_0, Y10_1, Y10_2, Y10_3, Y10_4⟩ := cf5 BK314))
 refine bodyPost_ret (results_cell_row rfl _ _ gb314 24 #[.int .i64 a0_0, .int .i64 a0_1, .int .i64 a0_2, .int .i64 a0_3, .slice Ao8 t315.length co8] (0, 0) _ rfl bkk Try.underlying24 rfl (by kernel_rfl)) rfl ?_
 exact ⟨_, fe, rpR (Kd.R_mono (Kd.R_far (p := ⟨gb314, 4, none⟩) (Kd.R_far (p := ⟨gb314, 3, none⟩) (Kd.R_far (p := ⟨gb314, 2, none⟩) (Kd.R_far (p := ⟨gb314, 1, none⟩) (Kd.R_far (p := ⟨gb314, 0, none⟩) (Kd.R_far (p := ⟨gb313, 4, none⟩) (Kd.R_types (Kd.R_types HO317.out BK313.out (by decide)) BK314.out (by decide)) (fun _ hk => hk.1.2) (.slice Ao8 t315.length co8)) (fun _ hk => hk.2) (.int .i64 a0_0)) (fun _ hk => hk.2) (.int .i64 a0_1)) (fun _ hk => hk.2) (.int .i64 a0_2)) (fun _ hk => hk.2) (.int .i64 a0_3)) (fun _ hk => hk.2) (.slice Ao8 t315.length co8)) (fun _ hk => trivial)), bl⟩

/-! ### impl_hardFits: function 32 -/
def impl_hardFits.f (a0_0 : Int) (a0_1 : Int) (a0_2 : Int) (a0_3 : Int) (l0_4 : List (S51)) (a1 : Int) (a2 : Int) : Option (Bool) := if a1 > a0_0 then (some true) else (if a1 = a0_0 then (if a0_1 = (-1) then (some true) else (some (a0_1 == a2))) else (some false))
set_option maxHeartbeats 8000000 in
set_option maxRecDepth 100000 in
theorem impl_hardFits.calls (a0_0 : Int) (a0_1 : Int) (a0_2 : Int) (a0_3 : Int) (A0_4 : Option Addr) (c0_4 : Nat) (l0_4 : List (S51)) (a1 : Int) (a2 : Int) (r : Bool) (w : World) (hr0_4 : Kd.C k51 w A0_4 l0_4.length l0_4) (hc0_4 : l0_4.length ≤ c0_4) (h : impl_hardFits.f a0_0 a0_1 a0_2 a0_3 l0_4 a1 a2 = some r) :
 Calls Try.prog 32 #[.agg #[.int .i64 a0_0, .int .i64 a0_1, .int .i64 a0_2, .int .i64 a0_3, .slice A0_4 l0_4.length c0_4], .int .i64 a1, .int .i64 a2] w fun e w' => e = .returned (.bool r) ∧ Below w.heap.size w w' := by
 have hu24 := Try.underlying24
 have HR0_4 := Aside0.mk hr0_4
 have HC0_4 := Aside0.mk hc0_4
 clear hr0_4 hc0_4
 have HB := Aside0.mk (Below.refl w.heap.size w)
 have H : (if a1 > a0_0 then (some true) else (if a1 = a0_0 then (if a0_1 = (-1) then (some true) else (some (a0_1 == a2))) else (some false))) = some r := h
 clear h
 by_cases c4 : a1 > a0_0
 ·rw [if_pos c4] at H
  have c4b0 : decide (a0_0 < a1) = true := decide_eq_true c4
  clear c4
  obtain rfl := Option.some.inj H
  go_enter Try.func32, Try.ntmps32
  go_wp2_with (first | ((with_reducible refine gD 3 rfl ?_); refine boxZ 3 #[.int .i64 a0_0, .int .i64 a0_1, .int .i64 a0_2, .int .i64 a0_3, .slice A0_4 l0_4.length c0_4] 24 ?_; intro gb318 hg w5 hbox hb; have BK318 := Aside0.mk hbox; have GW318 := gw (w := w) hg; have GE318 := gw (w := w) hg; replace HB := bs (w := w) hb; clear hb hbox hg; obtain ⟨Z6_0, Z6_1, Z6_2, Z6_3, Z6_4, Y6_0, Y6_1, Y6_2, Y6_3, Y6_4⟩ := cf5 BK318))
  go_ret
  exact ⟨fe, bl⟩
 ·rw [if_neg c4] at H
  have c4b0 : decide (a0_0 < a1) = false := decide_eq_false c4
  clear c4
  by_cases c7 : a1 = a0_0
  ·rw [if_pos c7] at H
   have c7b0 : (a1 == a0_0) = true := beq_iff_eq.mpr c7
   have c7b1 : (a1 != a0_0) = false := bne_eq_false_iff_eq.mpr c7
   clear c7
   by_cases c8 : a0_1 = (-1)
   ·rw [if_pos c8] at H
    have c8b0 : (a0_1 == (-1)) = true := beq_iff_eq.mpr c8
    have c8b1 : (a0_1 != (-1)) = false := bne_eq_false_iff_eq.mpr c8
    clear c8
    obtain rfl := Option.some.inj H
    go_enter Try.func32, Try.ntmps32
    go_wp2_with (first | ((with_reducible refine gD 3 rfl ?_); refine boxZ 3 #[.int .i64 a0_0, .int .i64 a0_1, .int .i64 a0_2, .int .i64 a0_3, .slice A0_4 l0_4.length c0_4] 24 ?_; intro gb318 hg w9 hbox hb; have BK318 := Aside0.mk hbox; have GW318 := gw (w := w) hg; have GE318 := gw (w := w) hg; replace HB := bs (w := w) hb; clear hb hbox hg; obtain ⟨Z10_0, Z10_1, Z10_2, Z10_3, Z10_4, Y10_0, Y10_1, Y10_2, Y10_3, Y10_4⟩ := cf5 BK318))
    go_ret
    exact ⟨fe, bl⟩
   ·rw [if_neg c8] at H
    have c8b0 : (a0_1 == (-1)) = false := beq_eq_false_iff_ne.mpr c8
    have c8b1 : (a0_1 != (-1)) = true := bne_iff_ne.mpr c8
    obtain rfl := Option.some.inj H
    go_enter Try.func32, Try.ntmps32
    go_wp2_with (first | ((with_reducible refine gD 3 rfl ?_); refine boxZ 3 #[.int .i64 a0_0, .int .i64 a0_1, .int .i64 a0_2, .int .i64 a0_3, .slice A0_4 l0_4.length c0_4] 24 ?_; intro gb318 hg w11 hbox hb; have BK318 := Aside0.mk hbox; have GW318 := gw (w := w) hg; have GE318 := gw (w := w) hg; replace HB := bs (w := w) hb; clear hb hbox hg; obtain ⟨Z12_0, Z12_1, Z12_2, Z12_3, Z12_4, Y12_0, Y12_1, Y12_2, Y12_3, Y12_4⟩ := cf5 BK318))
    go_ret
    exact ⟨fe, bl⟩
  ·rw [if_neg c7] at H
   have c7b0 : (a1 == a0_0) = false := beq_eq_false_iff_ne.mpr c7
   have c7b1 : (a1 != a0_0) = true := bne_iff_ne.mpr c7
   obtain rfl := Option.some.inj H
   go_enter Try.func32, Try.ntmps32
   go_wp2_with (first | ((with_reducible refine gD 3 rfl ?_); refine boxZ 3 #[.int .i64 a0_0, .int .i64 a0_1, .int .i64 a0_2, .int .i64 a0_3, .slice A0_4 l0_4.length c0_4] 24 ?_; intro gb318 hg w13 hbox hb; have BK318 := Aside0.mk hbox; have GW318 := gw (w := w) hg; have GE318 := gw (w := w) hg; replace HB := bs (w := w) hb; clear hb hbox hg; obtain ⟨Z14_0, Z14_1, Z14_2, Z14_3, Z14_4, Y14_0, Y14_1, Y14_2, Y14_3, Y14_4⟩ := cf5 BK318))
   go_ret
   exact ⟨fe, bl⟩

/-! ### impl_lastTerm: function 34 -/
def impl_lastTerm.f (a0_0 : Int) (a0_1 : Int) (a0_2 : Int) (a0_3 : Int) (l0_4 : List (S51)) : Option (Int) := if (l0_4.length : Int) = 0 then (some a0_3) else (if 0 ≤ (wrap64 ((l0_4.length : Int) - 1)) then (if (wrap64 ((l0_4.length : Int) - 1)) < (l0_4.length : Int) then (some ((rd_T51 l0_4 (wrap64 ((l0_4.length : Int) - 1))).f0)) else (none)) else (none))
set_option maxHeartbeats 8000000 in
set_option maxRecDepth 100000 in
theorem impl_lastTerm.calls (a0_0 : Int) (a0_1 : Int) (a0_2 : Int) (a0_3 : Int) (A0_4 : Option Addr) (c0_4 : Nat) (l0_4 : List (S51)) (r : Int) (w : World) (hr0_4 : Kd.C k51 w A0_4 l0_4.length l0_4) (hc0_4 : l0_4.length ≤ c0_4) (h : impl_lastTerm.f a0_0 a0_1 a0_2 a0_3 l0_4 = some r) :
 Calls Try.prog 34 #[.agg #[.int .i64 a0_0, .int .i64 a0_1, .int .i64 a0_2, .int .i64 a0_3, .slice A0_4 l0_4.length c0_4]] w fun e w' => e = .returned (.int .i64 r) ∧ Below w.heap.size w w' := by
 have hu24 := Try.underlying24
 have HR0_4 := Aside0.mk hr0_4
 have HC0_4 := Aside0.mk hc0_4
 clear hr0_4 hc0_4
 have HB := Aside0.mk (Below.refl w.heap.size w)
 have H : (if (l0_4.length : Int) = 0 then (some a0_3) else (if 0 ≤ (wrap64 ((l0_4.length : Int) - 1)) then (if (wrap64 ((l0_4.length : Int) - 1)) < (l0_4.length : Int) then (some ((rd_T51 l0_4 (wrap64 ((l0_4.length : Int) - 1))).f0)) else (none)) else (none))) = some r := h
 clear h
 by_cases c2 : (l0_4.length : Int) = 0
 ·rw [if_pos c2] at H
  have c2b0 : ((l0_4.length : Int) == 0) = true := beq_iff_eq.mpr c2
  have c2b1 : ((l0_4.length : Int) != 0) = false := bne_eq_false_iff_eq.mpr c2
  clear c2
  obtain rfl := Option.some.inj H
  go_enter Try.func34, Try.ntmps34
  go_wp2_with (first | ((with_reducible refine gD 1 rfl ?_); refine boxZ 1 #[.int .i64 a0_0, .int .i64 a0_1, .int .i64 a0_2, .int .i64 a0_3, .slice A0_4 l0_4.length c0_4] 24 ?_; intro gb319 hg w3 hbox hb; have BK319 := Aside0.mk hbox; have GW319 := gw (w := w) hg; have GE319 := gw (w := w) hg; replace HB := bs (w := w) hb; clear hb hbox hg; obtain ⟨Z4_0, Z4_1, Z4_2, Z4_3, Z4_4, Y4_0, Y4_1, Y4_2, Y4_3, Y4_4⟩ := cf5 BK319))
  go_ret
  exact ⟨fe, bl⟩
 ·rw [if_neg c2] at H
  have c2b0 : ((l0_4.length : Int) == 0) = false := beq_eq_false_iff_ne.mpr c2
  have c2b1 : ((l0_4.length : Int) != 0) = true := bne_iff_ne.mpr c2
  have c2b2 : ¬ (l0_4 = []) := fun h_ => c2 (by rw [h_]; rfl)
  obtain ⟨ji5, hji5⟩ : ∃ j_ : Int, (wrap64 ((l0_4.length : Int) - 1)) = j_ := ⟨_, rfl⟩
  replace H : (if 0 ≤ (ji5) then (if (ji5) < (l0_4.length : Int) then (some ((rd_T51 l0_4 (ji5)).f0)) else (none)) else (none)) = some r := by first | (rw [hji5] at H; exact H) | (simp only [hji5] at H ⊢; exact H)
  have hji5w : (IntKind.i64.wrap ((l0_4.length : Int) - 1)) = ji5 := (i64_w _).trans hji5
  by_cases c6 : 0 ≤ (ji5)
  ·rw [if_pos c6] at H
   have c6b0 : decide (0 ≤ (ji5)) = true := decide_eq_true c6
   clear c6
   by_cases c7 : (ji5) < (l0_4.length : Int)
   ·rw [if_pos c7] at H
    have c7b0 : decide ((ji5) < (l0_4.length : Int)) = true := decide_eq_true c7
    clear c7
    obtain rfl := Option.some.inj H
    go_enter Try.func34, Try.ntmps34
    go_wp2_with (first | ((with_reducible refine gD 1 rfl ?_); refine boxZ 1 #[.int .i64 a0_0, .int .i64 a0_1, .int .i64 a0_2, .int .i64 a0_3, .slice A0_4 l0_4.length c0_4] 24 ?_; intro gb319 hg w8 hbox hb; have BK319 := Aside0.mk hbox; have GW319 := gw (w := w) hg; have GE319 := gw (w := w) hg; replace HB := bs (w := w) hb; clear hb hbox hg; obtain ⟨Z9_0, Z9_1, Z9_2, Z9_3, Z9_4, Y9_0, Y9_1, Y9_2, Y9_3, Y9_4⟩ := cf5 BK319; have p320 : 0 ≤ ((ji5) : Int) := of_decide_eq_true am; have q320 : (ji5) < (l0_4.length : Int) := of_decide_eq_true am; obtain ⟨ad320, e320, hx320_0, hx320_1⟩ := at_T51 HR0_4.out (ji5) p320 q320; cases e320; replace hx320_0 := (HB.out.cell (World.block_lt_of_cell? w _ hx320_0)).trans hx320_0; replace hx320_1 := (HB.out.cell (World.block_lt_of_cell? w _ hx320_1)).trans hx320_1; replace p320 := eq_true p320; replace q320 := eq_true q320))
    go_ret
    exact ⟨by first | rfl | (simp [errW_none, errW_some] <;> rfl) | (simp only [← hji5]; first | rfl | (simp [errW_none, errW_some] <;> rfl)) | (simp [*, errW_none, errW_some] <;> rfl), bl⟩
   ·rw [if_neg c7] at H
    exact absurd H (by simp)
  ·rw [if_neg c6] at H
   exact absurd H (by simp)

end Go.Proofs.Ytflegbpgkkiijaa.PFnExactReplay
