-- PRINTED by print.py (a twelfth state) out of the translation. Not trusted: Lean checks it.
import Derived.Test.YtfmddjbekophnaaPFnBitsx0
import Derived.Test.YtfmddjbekophnaaPFnBitsx2
import Derived.Test.YtfmddjbekophnaaPFnBitsx3
import Derived.Test.YtfmddjbekophnaaPFnBitsx4
import Derived.Test.YtfmddjbekophnaaPFnBitsx5
import Derived.Test.YtfmddjbekophnaaPFnBitsx6
import Derived.Test.YtfmddjbekophnaaPFnBitsx7
import Derived.Test.YtfmddjbekophnaaZip
namespace Go.Proofs.Ytfmddjbekophnaa.PFnBits
open Go.RowKit Go.Proofs.YtfmddjbekophnaaW.PrintWords Go.Proofs.YtfmddjbekophnaaW.PrintLast Go.Proofs.YtfmddjbekophnaaW.PrintMore Go.Proofs.Ytfmddjbekophnaa.Zip
attribute [local go_sem] max2_int min2_int max_two min_two max_three min_three max_four min_four   -- for this text's walks alone
set_option linter.unusedVariables false
set_option linter.unusedSimpArgs false

/-! ### spec_DrawReadTimes: function 51 -/
def spec_DrawReadTimes.j0 : Nat → ByteArray → Int → List Int → Int → Int → Option (ByteArray × Int)
 | 0, _, _, _, _, _ => none
 | k + 1, x6, x7, x385000, x385001, x385002 => (spec_l1Once.f x385000 x385001 x385002 6).bind fun bt401 => (if bt401.1 = true then ((spec_l1PickInt.f x385000 bt401.2.1 bt401.2.2 (([(-1), 0, 1, wrap64 (x7 + 1), 61] : List Int))).bind fun bt407 => (some (x6, bt407.1))) else (some (x6, x7)))
def spec_DrawReadTimes.f (k : Nat) (l0 : List Int) : Option (ByteArray × Int) := (spec_l1New.f k l0).bind fun bt381 => ((spec_l1Size.f l0 12).bind fun t385 => ((spec_l7Times.f k bt381.1 bt381.2.1 bt381.2.2 t385).bind fun bt386 => ((spec_ShowTimes.f k bt386.1).bind fun t391 => ((spec_l1Text.f k bt381.1 bt386.2.1 bt386.2.2 3).bind fun bt392 => (if t391.size + bt392.1.size ≤ 9223372036854775807 then ((spec_l1Once.f bt381.1 bt392.2.1 bt392.2.2 4).bind fun bt395 => (if bt395.1 = true then ((spec_l1Spoil.f k bt381.1 bt395.2.1 bt395.2.2 (t391 ++ bt392.1)).bind fun bt398 => (spec_DrawReadTimes.j0 k bt398.1 (bt386.1.length : Int) bt381.1 bt398.2.1 bt398.2.2)) else (spec_DrawReadTimes.j0 k (t391 ++ bt392.1) (bt386.1.length : Int) bt381.1 bt395.2.1 bt395.2.2))) else (none))))))
theorem spec_DrawReadTimes.mono_l : ∀ k, (∀ y0 y1 y2 y3 y4, LeO (spec_DrawReadTimes.j0 k y0 y1 y2 y3 y4) (spec_DrawReadTimes.j0 (k + 1) y0 y1 y2 y3 y4))
 | 0 => fun _ _ _ _ _ r h => by simp [spec_DrawReadTimes.j0] at h
 | k + 1 => by
  have ih0 := spec_DrawReadTimes.mono_l k
  ·intro y0 y1 y2 y3 y4
   unfold spec_DrawReadTimes.j0
   repeat' first
   | (with_reducible exact ih0 _ _ _ _ _)
   | (with_reducible exact spec_ShowTimes.mono _ _)
   | (with_reducible exact spec_l1New.mono _ _)
   | (with_reducible exact spec_l1Spoil.mono _ _ _ _ _)
   | (with_reducible exact spec_l1Text.mono _ _ _ _ _)
   | (with_reducible exact spec_l7Times.mono _ _ _ _ _)
   | (with_reducible exact LeO.refl _)
   | (with_reducible exact LeO.none _)
   | (with_reducible refine LeO.ite ?_ ?_)
   | (with_reducible refine LeO.bind ?_ (fun _ => ?_))
   | exact ih0 _ _ _ _ _
   | exact spec_ShowTimes.mono _ _
   | exact spec_l1New.mono _ _
   | exact spec_l1Spoil.mono _ _ _ _ _
   | exact spec_l1Text.mono _ _ _ _ _
   | exact spec_l7Times.mono _ _ _ _ _
   | exact LeO.none _
   | refine LeO.ite ?_ ?_
   | refine LeO.bind ?_ (fun _ => ?_)
theorem spec_DrawReadTimes.mono : ∀ a0 k, LeO (spec_DrawReadTimes.f k a0) (spec_DrawReadTimes.f (k + 1) a0) := by
 intro a0 k
 have ih0 := spec_DrawReadTimes.mono_l k
 unfold spec_DrawReadTimes.f
 repeat' first
  | (with_reducible exact ih0 _ _ _ _ _)
  | (with_reducible exact spec_ShowTimes.mono _ _)
  | (with_reducible exact spec_l1New.mono _ _)
  | (with_reducible exact spec_l1Spoil.mono _ _ _ _ _)
  | (with_reducible exact spec_l1Text.mono _ _ _ _ _)
  | (with_reducible exact spec_l7Times.mono _ _ _ _ _)
  | (with_reducible exact LeO.refl _)
  | (with_reducible exact LeO.none _)
  | (with_reducible refine LeO.ite ?_ ?_)
  | (with_reducible refine LeO.bind ?_ (fun _ => ?_))
  | exact ih0 _ _ _ _ _
  | exact spec_ShowTimes.mono _ _
  | exact spec_l1New.mono _ _
  | exact spec_l1Spoil.mono _ _ _ _ _
  | exact spec_l1Text.mono _ _ _ _ _
  | exact spec_l7Times.mono _ _ _ _ _
  | exact LeO.none _
  | refine LeO.ite ?_ ?_
  | refine LeO.bind ?_ (fun _ => ?_)
set_option maxHeartbeats 8000000 in
set_option maxRecDepth 100000 in
theorem spec_DrawReadTimes.calls (k : Nat) (A0 : Option Addr) (c0 : Nat) (l0 : List Int) (r1 : ByteArray) (r2 : Int) (w : World) (hr0 : Kd.C (Kd.int .u8) w A0 l0.length l0) (hc0 : l0.length ≤ c0) (h : spec_DrawReadTimes.f k l0 = some (r1, r2)) :
 Calls Try.prog 51 #[.slice A0 l0.length c0] w fun e w' => e = .returned (.tuple #[.string r1, .int .i64 r2]) ∧ Below w.heap.size w w' := by
 have HR0 := Aside0.mk hr0
 have HC0 := Aside0.mk hc0
 clear hr0 hc0
 have HB := Aside0.mk (Below.refl w.heap.size w)
 have H : ((spec_l1New.f k l0).bind fun bt381 => ((spec_l1Size.f l0 12).bind fun t385 => ((spec_l7Times.f k bt381.1 bt381.2.1 bt381.2.2 t385).bind fun bt386 => ((spec_ShowTimes.f k bt386.1).bind fun t391 => ((spec_l1Text.f k bt381.1 bt386.2.1 bt386.2.2 3).bind fun bt392 => (if t391.size + bt392.1.size ≤ 9223372036854775807 then ((spec_l1Once.f bt381.1 bt392.2.1 bt392.2.2 4).bind fun bt395 => (if bt395.1 = true then ((spec_l1Spoil.f k bt381.1 bt395.2.1 bt395.2.2 (t391 ++ bt392.1)).bind fun bt398 => (spec_DrawReadTimes.j0 k bt398.1 (bt386.1.length : Int) bt381.1 bt398.2.1 bt398.2.2)) else (spec_DrawReadTimes.j0 k (t391 ++ bt392.1) (bt386.1.length : Int) bt381.1 bt395.2.1 bt395.2.2))) else (none))))))) = some (r1, r2) := h
 clear h
 replace H := Option.bind_eq_some_iff.mp H
 obtain ⟨⟨t381, t382, t383⟩, A20, H⟩ := H
 replace H : ((spec_l1Size.f l0 12).bind fun t385 => ((spec_l7Times.f k t381 t382 t383 t385).bind fun bt386 => ((spec_ShowTimes.f k bt386.1).bind fun t391 => ((spec_l1Text.f k t381 bt386.2.1 bt386.2.2 3).bind fun bt392 => (if t391.size + bt392.1.size ≤ 9223372036854775807 then ((spec_l1Once.f t381 bt392.2.1 bt392.2.2 4).bind fun bt395 => (if bt395.1 = true then ((spec_l1Spoil.f k t381 bt395.2.1 bt395.2.2 (t391 ++ bt392.1)).bind fun bt398 => (spec_DrawReadTimes.j0 k bt398.1 (bt386.1.length : Int) t381 bt398.2.1 bt398.2.2)) else (spec_DrawReadTimes.j0 k (t391 ++ bt392.1) (bt386.1.length : Int) t381 bt395.2.1 bt395.2.2))) else (none)))))) = some (r1, r2) := H
 have A2 := Aside0.mk A20
 clear A20
 obtain ⟨t385, A3, H⟩ := bd H
 replace H := Option.bind_eq_some_iff.mp H
 obtain ⟨⟨t386, t389, t390⟩, A40, H⟩ := H
 replace H : ((spec_ShowTimes.f k t386).bind fun t391 => ((spec_l1Text.f k t381 t389 t390 3).bind fun bt392 => (if t391.size + bt392.1.size ≤ 9223372036854775807 then ((spec_l1Once.f t381 bt392.2.1 bt392.2.2 4).bind fun bt395 => (if bt395.1 = true then ((spec_l1Spoil.f k t381 bt395.2.1 bt395.2.2 (t391 ++ bt392.1)).bind fun bt398 => (spec_DrawReadTimes.j0 k bt398.1 (t386.length : Int) t381 bt398.2.1 bt398.2.2)) else (spec_DrawReadTimes.j0 k (t391 ++ bt392.1) (t386.length : Int) t381 bt395.2.1 bt395.2.2))) else (none)))) = some (r1, r2) := H
 have A4 := Aside0.mk A40
 clear A40
 obtain ⟨t391, A5, H⟩ := bd H
 replace H := Option.bind_eq_some_iff.mp H
 obtain ⟨⟨t392, t393, t394⟩, A60, H⟩ := H
 replace H : (if t391.size + t392.size ≤ 9223372036854775807 then ((spec_l1Once.f t381 t393 t394 4).bind fun bt395 => (if bt395.1 = true then ((spec_l1Spoil.f k t381 bt395.2.1 bt395.2.2 (t391 ++ t392)).bind fun bt398 => (spec_DrawReadTimes.j0 k bt398.1 (t386.length : Int) t381 bt398.2.1 bt398.2.2)) else (spec_DrawReadTimes.j0 k (t391 ++ t392) (t386.length : Int) t381 bt395.2.1 bt395.2.2))) else (none)) = some (r1, r2) := H
 have A6 := Aside0.mk A60
 clear A60
 by_cases c7 : t391.size + t392.size ≤ 9223372036854775807
 ·rw [if_pos c7] at H
  have c7b0 := eq_true c7
  have c7b1 : decide (t391.size + t392.size ≤ 9223372036854775807) = true := decide_eq_true c7
  try have c7b2 : (9223372036854775807 < t391.size + t392.size) = False := eq_false (Nat.not_lt.2 c7)
  replace H := Option.bind_eq_some_iff.mp H
  obtain ⟨⟨t395, t396, t397⟩, A80, H⟩ := H
  replace H : (if t395 = true then ((spec_l1Spoil.f k t381 t396 t397 (t391 ++ t392)).bind fun bt398 => (spec_DrawReadTimes.j0 k bt398.1 (t386.length : Int) t381 bt398.2.1 bt398.2.2)) else (spec_DrawReadTimes.j0 k (t391 ++ t392) (t386.length : Int) t381 t396 t397)) = some (r1, r2) := H
  have A8 := Aside0.mk A80
  clear A80
  have HC9 := Aside0.mk H
  clear H
  go_enter Try.func51, Try.ntmps51
  go_upto_if 22 with (first | ((with_reducible refine gC 87 rfl ?_); refine goesZ (some 9) rfl Try.func87 #[.slice A0 l0.length c0] ?_; (with_reducible refine (spec_l1New.calls k _ _ l0 t381 t382 t383 w _ ?side1 ?side2 ?side3 A2.out).mono ?_); (case side1 => repeat (first | (with_reducible first | exact HB.out | apply below_alloc | apply pw_below_drewN | apply below_drew1) | exact HB.out)); (case side2 => exact HR0.out); (case side3 => exact HC0.out); rintro e w10 ⟨g384, rfl, hi, hb, hb2⟩; refine ⟨_, rfl, ?_⟩; replace HB := Aside0.mk (hb); have HI384 := Aside0.mk (hi); (try clear hb hb2 hi)) | ((with_reducible refine gC 99 rfl ?_); refine goesZ (some 12) rfl Try.func99 #[.slice A0 l0.length c0, .int .i64 12] ?_; (with_reducible refine (spec_l1Size.calls _ _ l0 12 t385 _ ?side1 ?side2 A3.out).mono ?_); (case side1 => exact ca (Kd.C_below HR0.out HB.out)); (case side2 => exact HC0.out); rintro e w' ⟨rfl, ⟨nd, rfl⟩⟩; refine ⟨_, rfl, ?_⟩) | ((with_reducible refine gC 98 rfl ?_); refine goesZ (some 13) rfl Try.func98 #[.pointer (some ⟨g384, 0, none⟩), .int .i64 t385] ?_; (with_reducible refine (spec_l7Times.calls k g384 t381 t382 t383 t385 t386 t389 t390 w _ ?side1 ?side2 A4.out).mono ?_); (case side1 => repeat (first | (with_reducible first | exact HI384.out | apply IsS136.alloc | apply IsS136.drewN | apply IsS136.drew | apply IsS136.set_1 | apply IsS136.set_2) | exact HI384.out)); (case side2 => repeat (first | (with_reducible first | exact HB.out | apply below_alloc | apply pw_below_drewN | apply below_drew1 | refine below_set ?_ (IsS136.ge HI384.out)) | exact HB.out)); rintro e w11 ⟨v387, rfl, ho0, hi, hb, hk⟩; refine ⟨_, rfl, ?_⟩; have HO388 := Aside0.mk (Kd.R_lower ho0 (below_size (by repeat (first | (with_reducible first | exact HB.out | apply below_alloc | apply pw_below_drewN | apply below_drew1 | refine below_set ?_ (IsS136.ge HI384.out)) | exact HB.out)))); replace HB := Aside0.mk (hb); replace HI384 := Aside0.mk (hi); (try clear hb hk hi ho0); obtain ⟨Ao12, co12, rfl⟩ := Kd.R_slice HO388.out) | ((with_reducible refine gC 24 rfl ?_); refine goesZ (some 15) rfl Try.func24 #[.slice Ao12 t386.length co12] ?_; (with_reducible refine (spec_ShowTimes.calls k _ _ t386 t391 _ ?side1 ?side2 A5.out).mono ?_); (case side1 => exact ca ((Kd.R_reads' HO388.out).2.2)); (case side2 => exact (Kd.R_reads' HO388.out).2.1); rintro e w13 ⟨rfl, hb⟩; refine ⟨_, rfl, ?_⟩; replace HO388 := Aside0.mk (Kd.R_below (rpR HO388.out) hb); replace HB := Aside0.mk (below_step (by repeat (first | (with_reducible first | exact HB.out | apply below_alloc | apply pw_below_drewN | apply below_drew1 | refine below_set ?_ (IsS136.ge HI384.out)) | exact HB.out)) hb); replace HI384 := Aside0.mk (IsS136.below (by repeat (first | (with_reducible first | exact HI384.out | apply IsS136.alloc | apply IsS136.drewN | apply IsS136.drew | apply IsS136.set_1 | apply IsS136.set_2) | exact HI384.out)) hb); (try clear hb)) | ((with_reducible refine gC 89 rfl ?_); refine goesZ (some 17) rfl Try.func89 #[.pointer (some ⟨g384, 0, none⟩), .int .i64 3] ?_; (with_reducible refine (spec_l1Text.calls k g384 t381 t389 t390 3 t392 t393 t394 w _ ?side1 ?side2 A6.out).mono ?_); (case side1 => repeat (first | (with_reducible first | exact HI384.out | apply IsS136.alloc | apply IsS136.drewN | apply IsS136.drew | apply IsS136.set_1 | apply IsS136.set_2) | exact HI384.out)); (case side2 => repeat (first | (with_reducible first | exact HB.out | apply below_alloc | apply pw_below_drewN | apply below_drew1 | refine below_set ?_ (IsS136.ge HI384.out)) | exact HB.out)); rintro e w14 ⟨rfl, hi, hb, hk⟩; refine ⟨_, rfl, ?_⟩; replace HO388 := Aside0.mk (Kd.R_mono (Kd.R_keep (IsS136.apart (show IsS136 w _ g384 t381 t389 t390 from by repeat (first | (with_reducible first | exact HI384.out | apply IsS136.alloc | apply IsS136.drewN | apply IsS136.drew | apply IsS136.set_1 | apply IsS136.set_2) | exact HI384.out)) (rpR HO388.out) (by decide)) hk (fun _ h => h.2)) (fun _ h => h.1)); replace HB := Aside0.mk (hb); replace HI384 := Aside0.mk (hi); (try clear hb hk hi)) | ((with_reducible refine gC 91 rfl ?_); refine goesZ (some 22) rfl Try.func91 #[.pointer (some ⟨g384, 0, none⟩), .int .i64 4] ?_; (with_reducible refine (spec_l1Once.calls g384 t381 t393 t394 4 t395 t396 t397 w _ ?side1 ?side2 A8.out).mono ?_); (case side1 => repeat (first | (with_reducible first | exact HI384.out | apply IsS136.alloc | apply IsS136.drewN | apply IsS136.drew | apply IsS136.set_1 | apply IsS136.set_2) | exact HI384.out)); (case side2 => repeat (first | (with_reducible first | exact HB.out | apply below_alloc | apply pw_below_drewN | apply below_drew1 | refine below_set ?_ (IsS136.ge HI384.out)) | exact HB.out)); rintro e w15 ⟨rfl, hi, hb, hk⟩; refine ⟨_, rfl, ?_⟩; replace HO388 := Aside0.mk (Kd.R_mono (Kd.R_keep (IsS136.apart (show IsS136 w _ g384 t381 t393 t394 from by repeat (first | (with_reducible first | exact HI384.out | apply IsS136.alloc | apply IsS136.drewN | apply IsS136.drew | apply IsS136.set_1 | apply IsS136.set_2) | exact HI384.out)) (rpR HO388.out) (by decide)) hk (fun _ h => h.2)) (fun _ h => h.1)); replace HB := Aside0.mk (hb); replace HI384 := Aside0.mk (hi); (try clear hb hk hi)))
  (try simp only [Act.put, List.setIfInBounds_toArray, List.set_cons_zero, List.set_cons_succ])
  go_cut [6] (fun v6 wc => ∃ (kq : Nat) (x6_8 : ByteArray) (x385001_8 : Int) (x385002_8 : Int), v6 = .string x6_8 ∧ Aside0 (spec_DrawReadTimes.j0 kq x6_8 (t386.length : Int) t381 x385001_8 x385002_8 = some (r1, r2)) ∧ Aside0 (kq ≤ k) ∧ Aside0 (IsS136 w wc g384 t381 x385001_8 x385002_8) ∧ Aside0 (Below w.heap.size w wc))
  case first =>
   have H := HC9.out
   clear HC9
   by_cases c16 : t395 = true
   ·subst c16
    replace H := iT H
    replace H := Option.bind_eq_some_iff.mp H
    obtain ⟨⟨t398, t399, t400⟩, A170, H⟩ := H
    replace H : (spec_DrawReadTimes.j0 k t398 (t386.length : Int) t381 t399 t400) = some (r1, r2) := H
    have A17 := Aside0.mk A170
    clear A170
    have H' := Aside0.mk H
    clear H
    go_wp2_with (first | ((with_reducible refine gC 92 rfl ?_); refine goesZ (some 25) rfl Try.func92 #[.pointer (some ⟨g384, 0, none⟩), .string (t391 ++ t392)] ?_; (with_reducible refine (spec_l1Spoil.calls k g384 t381 t396 t397 (t391 ++ t392) t398 t399 t400 w _ ?side1 ?side2 A17.out).mono ?_); (case side1 => repeat (first | (with_reducible first | exact HI384.out | apply IsS136.alloc | apply IsS136.drewN | apply IsS136.drew | apply IsS136.set_1 | apply IsS136.set_2) | exact HI384.out)); (case side2 => repeat (first | (with_reducible first | exact HB.out | apply below_alloc | apply pw_below_drewN | apply below_drew1 | refine below_set ?_ (IsS136.ge HI384.out)) | exact HB.out)); rintro e w18 ⟨rfl, hi, hb, hk⟩; refine ⟨_, rfl, ?_⟩; replace HO388 := Aside0.mk (Kd.R_mono (Kd.R_keep (IsS136.apart (show IsS136 w _ g384 t381 t396 t397 from by repeat (first | (with_reducible first | exact HI384.out | apply IsS136.alloc | apply IsS136.drewN | apply IsS136.drew | apply IsS136.set_1 | apply IsS136.set_2) | exact HI384.out)) (rpR HO388.out) (by decide)) hk (fun _ h => h.2)) (fun _ h => h.1)); replace HB := Aside0.mk (hb); replace HI384 := Aside0.mk (hi); (try clear hb hk hi)))
    go_meet
    case rel => exact ⟨_, (t398), (t399), (t400), fa, H', ⟨by first | omega | exact Nat.le_refl _⟩, ⟨by repeat (first | (with_reducible first | exact HI384.out | apply IsS136.alloc | apply IsS136.drewN | apply IsS136.drew | apply IsS136.set_1 | apply IsS136.set_2) | exact HI384.out)⟩, ⟨by repeat (first | (with_reducible first | exact HB.out | apply below_alloc | apply pw_below_drewN | apply below_drew1 | refine below_set ?_ (IsS136.ge HI384.out)) | exact HB.out)⟩⟩
   ·replace c16 := Bool.eq_false_iff.mpr c16
    subst c16
    replace H := iF H
    have H' := Aside0.mk H
    clear H
    go_wp2
    go_meet
    case rel => exact ⟨_, (t391 ++ t392), (t396), (t397), fa, H', ⟨by first | omega | exact Nat.le_refl _⟩, ⟨by repeat (first | (with_reducible first | exact HI384.out | apply IsS136.alloc | apply IsS136.drewN | apply IsS136.drew | apply IsS136.set_1 | apply IsS136.set_2) | exact HI384.out)⟩, ⟨by repeat (first | (with_reducible first | exact HB.out | apply below_alloc | apply pw_below_drewN | apply below_drew1 | refine below_set ?_ (IsS136.ge HI384.out)) | exact HB.out)⟩⟩
  case rest =>
   clear HC9
   try clear c1
   try clear c2
   try clear p2
   try clear c5
   try clear c7
   try clear c7b0
   try clear c7b1
   try clear c7b2
   try clear c8
   try clear c9
   try clear c16
   obtain ⟨kq, x6_8, x385001_8, x385002_8, rfl, HA, HJ8, HI384, HB⟩ := hcut
   cases kq with
   | zero => exact absurd HA.out (by simp [spec_DrawReadTimes.j0])
   | succ kj8 =>
    have H := HA.out
    clear HA
    simp only [spec_DrawReadTimes.j0] at H
    replace H := Option.bind_eq_some_iff.mp H
    obtain ⟨⟨t401, t402, t403⟩, A190, H⟩ := H
    replace H : (if t401 = true then ((spec_l1PickInt.f t381 t402 t403 (([(-1), 0, 1, wrap64 ((t386.length : Int) + 1), 61] : List Int))).bind fun bt407 => (some (x6_8, bt407.1))) else (some (x6_8, (t386.length : Int)))) = some (r1, r2) := H
    have A19 := Aside0.mk A190
    clear A190
    by_cases c20 : t401 = true
    ·subst c20
     replace H := iT H
     obtain ⟨y404, hy404⟩ : ∃ y_ : List Int, y_ = (([(-1), 0, 1, wrap64 ((t386.length : Int) + 1), 61] : List Int)) := ⟨_, rfl⟩
     replace H : ((spec_l1PickInt.f t381 t402 t403 y404).bind fun bt407 => (some (x6_8, bt407.1))) = some (r1, r2) := by first | (rw [hy404]; with_reducible exact H) | (have H2_ := (Option.bind_some _ _).symm.trans H; rw [hy404]; with_reducible exact H2_) | (have H2_ := (Option.bind_some _ _).symm.trans H; with_reducible exact H2_) | with_reducible exact H | (rw [hy404]; exact H) | exact H
     have Ny404 := Aside0.mk hy404
     clear hy404
     replace H := Option.bind_eq_some_iff.mp H
     obtain ⟨⟨t407, t408, t409⟩, A210, H⟩ := H
     replace H : (some (x6_8, t407)) = some (r1, r2) := H
     have A21 := Aside0.mk A210
     clear A210
     simp only [Option.some.injEq, Prod.mk.injEq] at H
     obtain ⟨rfl, rfl⟩ := H
     go_wp2_with (first | ((with_reducible refine gC 91 rfl ?_); refine goesZ (some 27) rfl Try.func91 #[.pointer (some ⟨g384, 0, none⟩), .int .i64 6] ?_; (with_reducible refine (spec_l1Once.calls g384 t381 x385001_8 x385002_8 6 true t402 t403 w _ ?side1 ?side2 A19.out).mono ?_); (case side1 => repeat (first | (with_reducible first | exact HI384.out | apply IsS136.alloc | apply IsS136.drewN | apply IsS136.drew | apply IsS136.set_1 | apply IsS136.set_2) | exact HI384.out)); (case side2 => repeat (first | (with_reducible first | exact HB.out | apply below_alloc | apply pw_below_drewN | apply below_drew1 | refine below_set ?_ (IsS136.ge HI384.out)) | exact HB.out)); rintro e w22 ⟨rfl, hi, hb, hk⟩; refine ⟨_, rfl, ?_⟩; replace HB := Aside0.mk (hb); replace HI384 := Aside0.mk (hi); (try clear hb hk hi)) | ((with_reducible refine gD 31 rfl ?_); refine Kd.R_lit (Kd.int .i64) _ 3 ?hg (N := 31) ?hd (xs := ([(-1), 0, 1, wrap64 ((t386.length : Int) + 1), 61] : List Int)) (inner := [.int .i64 (-1), .int .i64 0, .int .i64 1, .int .i64 (wrap64 ((t386.length : Int) + 1)), .int .i64 61]) (ok := fun _ => True) (okp := fun _ => True) ?hr ?hp (fun _ hk => hk) trivial (Below.refl _ _) (Nat.le_refl _) (by simp) ?_; (case hd => rfl); (case hg => rfl); (case hr => first | (go_simp; done) | (go_simp; rfl)); (case hp => exact (Reps.one (show Kd.M (Kd.int .i64) _ _ _ (-1) [.int .i64 (-1)] from rfl) (Reps.one (show Kd.M (Kd.int .i64) _ _ _ 0 [.int .i64 0] from rfl) (Reps.one (show Kd.M (Kd.int .i64) _ _ _ 1 [.int .i64 1] from rfl) (Reps.one (show Kd.M (Kd.int .i64) _ _ _ (wrap64 ((t386.length : Int) + 1)) [.int .i64 (wrap64 ((t386.length : Int) + 1))] from rfl) (Reps.one (show Kd.M (Kd.int .i64) _ _ _ 61 [.int .i64 61] from rfl) (Reps.none _ _))))))); intro v405 w23 ho24 hb hg_ hnew_; clear hg_ hnew_; (first | rw [← Ny404.out] at ho24 | (simp only [Int.reduceToNat] at ho24; rw [← Ny404.out] at ho24)); have HO406 := Aside0.mk (Kd.R_lower ho24 (below_size (by repeat (first | (with_reducible first | exact HB.out | apply below_alloc | apply pw_below_drewN | apply below_drew1 | refine below_set ?_ (IsS136.ge HI384.out)) | exact HB.out)))); replace HB := Aside0.mk (below_step (by repeat (first | (with_reducible first | exact HB.out | apply below_alloc | apply pw_below_drewN | apply below_drew1 | refine below_set ?_ (IsS136.ge HI384.out)) | exact HB.out)) hb); replace HI384 := Aside0.mk (IsS136.below (by repeat (first | (with_reducible first | exact HI384.out | apply IsS136.alloc | apply IsS136.drewN | apply IsS136.drew | apply IsS136.set_1 | apply IsS136.set_2) | exact HI384.out)) hb); clear hb ho24; obtain ⟨Ao25, co25, rfl⟩ := Kd.R_slice HO406.out) | ((with_reducible refine gC 101 rfl ?_); refine goesZ (some 32) rfl Try.func101 #[.pointer (some ⟨g384, 0, none⟩), .slice Ao25 y404.length co25] ?_; (with_reducible refine (spec_l1PickInt.calls g384 t381 t402 t403 _ _ y404 t407 t408 t409 w _ ?side1 ?side2 ?side3 ?side4 ?side5 A21.out).mono ?_); (case side1 => repeat (first | (with_reducible first | exact HI384.out | apply IsS136.alloc | apply IsS136.drewN | apply IsS136.drew | apply IsS136.set_1 | apply IsS136.set_2) | exact HI384.out)); (case side2 => repeat (first | (with_reducible first | exact HB.out | apply below_alloc | apply pw_below_drewN | apply below_drew1 | refine below_set ?_ (IsS136.ge HI384.out)) | exact HB.out)); (case side3 => exact ca ((Kd.R_reads' HO406.out).2.2)); (case side4 => exact (Kd.R_reads' HO406.out).2.1); (case side5 => exact far_slice (IsS136.own_ne HI384.out HO406.out (by decide))); rintro e w26 ⟨rfl, hi, hb, hk⟩; refine ⟨_, rfl, ?_⟩; replace HO406 := Aside0.mk (Kd.R_mono (Kd.R_keep (IsS136.apart (show IsS136 w _ g384 t381 t402 t403 from by repeat (first | (with_reducible first | exact HI384.out | apply IsS136.alloc | apply IsS136.drewN | apply IsS136.drew | apply IsS136.set_1 | apply IsS136.set_2) | exact HI384.out)) (rpR HO406.out) (by decide)) hk (fun _ h => h.2)) (fun _ h => h.1)); replace HB := Aside0.mk (hb); replace HI384 := Aside0.mk (hi); (try clear hb hk hi)))
     go_ret2
     exact ⟨fe, by repeat (first | (with_reducible first | exact HB.out | apply below_alloc | apply pw_below_drewN | apply below_drew1 | refine below_set ?_ (IsS136.ge HI384.out)) | exact HB.out)⟩
    ·replace c20 := Bool.eq_false_iff.mpr c20
     subst c20
     replace H := iF H
     simp only [Option.some.injEq, Prod.mk.injEq] at H
     obtain ⟨rfl, rfl⟩ := H
     go_wp2_with (first | ((with_reducible refine gC 91 rfl ?_); refine goesZ (some 27) rfl Try.func91 #[.pointer (some ⟨g384, 0, none⟩), .int .i64 6] ?_; (with_reducible refine (spec_l1Once.calls g384 t381 x385001_8 x385002_8 6 false t402 t403 w _ ?side1 ?side2 A19.out).mono ?_); (case side1 => repeat (first | (with_reducible first | exact HI384.out | apply IsS136.alloc | apply IsS136.drewN | apply IsS136.drew | apply IsS136.set_1 | apply IsS136.set_2) | exact HI384.out)); (case side2 => repeat (first | (with_reducible first | exact HB.out | apply below_alloc | apply pw_below_drewN | apply below_drew1 | refine below_set ?_ (IsS136.ge HI384.out)) | exact HB.out)); rintro e w27 ⟨rfl, hi, hb, hk⟩; refine ⟨_, rfl, ?_⟩; replace HB := Aside0.mk (hb); replace HI384 := Aside0.mk (hi); (try clear hb hk hi)))
     go_ret2
     exact ⟨fe, by repeat (first | (with_reducible first | exact HB.out | apply below_alloc | apply pw_below_drewN | apply below_drew1 | refine below_set ?_ (IsS136.ge HI384.out)) | exact HB.out)⟩
 ·rw [if_neg c7] at H
  exact absurd H (by simp)

/-! ### spec_DrawZigZag: function 52 -/
def spec_DrawZigZag.f (k : Nat) (l0 : List Int) : Option (Int) := (spec_l1New.f k l0).bind fun bt410 => ((spec_l1Once.f bt410.1 bt410.2.1 bt410.2.2 4).bind fun bt414 => (if bt414.1 = true then ((spec_l1PickInt.f bt410.1 bt414.2.1 bt414.2.2 (([0, (-1), 140737488355328, 140737488355329, (-140737488355328), (-140737488355329), 9223372036854775807, (-9223372036854775808)] : List Int))).bind fun bt420 => (some bt420.1)) else ((spec_l1Below.f bt410.1 bt414.2.1 bt414.2.2 2000).bind fun bt423 => (some (wrap64 (bt423.1 - 1000))))))
theorem spec_DrawZigZag.mono : ∀ a0 k, LeO (spec_DrawZigZag.f k a0) (spec_DrawZigZag.f (k + 1) a0) := by
 intro a0 k
 unfold spec_DrawZigZag.f
 repeat' first
  | (with_reducible exact spec_l1New.mono _ _)
  | (with_reducible exact LeO.refl _)
  | (with_reducible exact LeO.none _)
  | (with_reducible refine LeO.ite ?_ ?_)
  | (with_reducible refine LeO.bind ?_ (fun _ => ?_))
  | exact spec_l1New.mono _ _
  | exact LeO.none _
  | refine LeO.ite ?_ ?_
  | refine LeO.bind ?_ (fun _ => ?_)
set_option maxHeartbeats 8000000 in
set_option maxRecDepth 100000 in
theorem spec_DrawZigZag.calls (k : Nat) (A0 : Option Addr) (c0 : Nat) (l0 : List Int) (r : Int) (w : World) (hr0 : Kd.C (Kd.int .u8) w A0 l0.length l0) (hc0 : l0.length ≤ c0) (h : spec_DrawZigZag.f k l0 = some r) :
 Calls Try.prog 52 #[.slice A0 l0.length c0] w fun e w' => e = .returned (.int .i64 r) ∧ Below w.heap.size w w' := by
 have HR0 := Aside0.mk hr0
 have HC0 := Aside0.mk hc0
 clear hr0 hc0
 have HB := Aside0.mk (Below.refl w.heap.size w)
 have H : ((spec_l1New.f k l0).bind fun bt410 => ((spec_l1Once.f bt410.1 bt410.2.1 bt410.2.2 4).bind fun bt414 => (if bt414.1 = true then ((spec_l1PickInt.f bt410.1 bt414.2.1 bt414.2.2 (([0, (-1), 140737488355328, 140737488355329, (-140737488355328), (-140737488355329), 9223372036854775807, (-9223372036854775808)] : List Int))).bind fun bt420 => (some bt420.1)) else ((spec_l1Below.f bt410.1 bt414.2.1 bt414.2.2 2000).bind fun bt423 => (some (wrap64 (bt423.1 - 1000))))))) = some r := h
 clear h
 replace H := Option.bind_eq_some_iff.mp H
 obtain ⟨⟨t410, t411, t412⟩, A20, H⟩ := H
 replace H : ((spec_l1Once.f t410 t411 t412 4).bind fun bt414 => (if bt414.1 = true then ((spec_l1PickInt.f t410 bt414.2.1 bt414.2.2 (([0, (-1), 140737488355328, 140737488355329, (-140737488355328), (-140737488355329), 9223372036854775807, (-9223372036854775808)] : List Int))).bind fun bt420 => (some bt420.1)) else ((spec_l1Below.f t410 bt414.2.1 bt414.2.2 2000).bind fun bt423 => (some (wrap64 (bt423.1 - 1000)))))) = some r := H
 have A2 := Aside0.mk A20
 clear A20
 replace H := Option.bind_eq_some_iff.mp H
 obtain ⟨⟨t414, t415, t416⟩, A30, H⟩ := H
 replace H : (if t414 = true then ((spec_l1PickInt.f t410 t415 t416 (([0, (-1), 140737488355328, 140737488355329, (-140737488355328), (-140737488355329), 9223372036854775807, (-9223372036854775808)] : List Int))).bind fun bt420 => (some bt420.1)) else ((spec_l1Below.f t410 t415 t416 2000).bind fun bt423 => (some (wrap64 (bt423.1 - 1000))))) = some r := H
 have A3 := Aside0.mk A30
 clear A30
 by_cases c4 : t414 = true
 ·subst c4
  replace H := iT H
  obtain ⟨y417, hy417⟩ : ∃ y_ : List Int, y_ = (([0, (-1), 140737488355328, 140737488355329, (-140737488355328), (-140737488355329), 9223372036854775807, (-9223372036854775808)] : List Int)) := ⟨_, rfl⟩
  replace H : ((spec_l1PickInt.f t410 t415 t416 y417).bind fun bt420 => (some bt420.1)) = some r := by first | (rw [hy417]; with_reducible exact H) | (have H2_ := (Option.bind_some _ _).symm.trans H; rw [hy417]; with_reducible exact H2_) | (have H2_ := (Option.bind_some _ _).symm.trans H; with_reducible exact H2_) | with_reducible exact H | (rw [hy417]; exact H) | exact H
  have Ny417 := Aside0.mk hy417
  clear hy417
  replace H := Option.bind_eq_some_iff.mp H
  obtain ⟨⟨t420, t421, t422⟩, A50, H⟩ := H
  replace H : (some t420) = some r := H
  have A5 := Aside0.mk A50
  clear A50
  obtain rfl := Option.some.inj H
  go_enter Try.func52, Try.ntmps52
  go_wp2_with (first | ((with_reducible refine gC 87 rfl ?_); refine goesZ (some 5) rfl Try.func87 #[.slice A0 l0.length c0] ?_; (with_reducible refine (spec_l1New.calls k _ _ l0 t410 t411 t412 w _ ?side1 ?side2 ?side3 A2.out).mono ?_); (case side1 => repeat (first | (with_reducible first | exact HB.out | apply below_alloc | apply pw_below_drewN | apply below_drew1) | exact HB.out)); (case side2 => exact HR0.out); (case side3 => exact HC0.out); rintro e w6 ⟨g413, rfl, hi, hb, hb2⟩; refine ⟨_, rfl, ?_⟩; replace HB := Aside0.mk (hb); have HI413 := Aside0.mk (hi); (try clear hb hb2 hi)) | ((with_reducible refine gC 91 rfl ?_); refine goesZ (some 7) rfl Try.func91 #[.pointer (some ⟨g413, 0, none⟩), .int .i64 4] ?_; (with_reducible refine (spec_l1Once.calls g413 t410 t411 t412 4 true t415 t416 w _ ?side1 ?side2 A3.out).mono ?_); (case side1 => repeat (first | (with_reducible first | exact HI413.out | apply IsS136.alloc | apply IsS136.drewN | apply IsS136.drew | apply IsS136.set_1 | apply IsS136.set_2) | exact HI413.out)); (case side2 => repeat (first | (with_reducible first | exact HB.out | apply below_alloc | apply pw_below_drewN | apply below_drew1 | refine below_set ?_ (IsS136.ge HI413.out)) | exact HB.out)); rintro e w7 ⟨rfl, hi, hb, hk⟩; refine ⟨_, rfl, ?_⟩; replace HB := Aside0.mk (hb); replace HI413 := Aside0.mk (hi); (try clear hb hk hi)) | ((with_reducible refine gD 9 rfl ?_); refine Kd.R_lit (Kd.int .i64) _ 3 ?hg (N := 9) ?hd (xs := ([0, (-1), 140737488355328, 140737488355329, (-140737488355328), (-140737488355329), 9223372036854775807, (-9223372036854775808)] : List Int)) (inner := [.int .i64 0, .int .i64 (-1), .int .i64 140737488355328, .int .i64 140737488355329, .int .i64 (-140737488355328), .int .i64 (-140737488355329), .int .i64 9223372036854775807, .int .i64 (-9223372036854775808)]) (ok := fun _ => True) (okp := fun _ => True) ?hr ?hp (fun _ hk => hk) trivial (Below.refl _ _) (Nat.le_refl _) (by simp) ?_; (case hd => rfl); (case hg => rfl); (case hr => first | (go_simp; done) | (go_simp; rfl)); (case hp => exact (Reps.one (show Kd.M (Kd.int .i64) _ _ _ 0 [.int .i64 0] from rfl) (Reps.one (show Kd.M (Kd.int .i64) _ _ _ (-1) [.int .i64 (-1)] from rfl) (Reps.one (show Kd.M (Kd.int .i64) _ _ _ 140737488355328 [.int .i64 140737488355328] from rfl) (Reps.one (show Kd.M (Kd.int .i64) _ _ _ 140737488355329 [.int .i64 140737488355329] from rfl) (Reps.one (show Kd.M (Kd.int .i64) _ _ _ (-140737488355328) [.int .i64 (-140737488355328)] from rfl) (Reps.one (show Kd.M (Kd.int .i64) _ _ _ (-140737488355329) [.int .i64 (-140737488355329)] from rfl) (Reps.one (show Kd.M (Kd.int .i64) _ _ _ 9223372036854775807 [.int .i64 9223372036854775807] from rfl) (Reps.one (show Kd.M (Kd.int .i64) _ _ _ (-9223372036854775808) [.int .i64 (-9223372036854775808)] from rfl) (Reps.none _ _)))))))))); intro v418 w8 ho9 hb hg_ hnew_; clear hg_ hnew_; (first | rw [← Ny417.out] at ho9 | (simp only [Int.reduceToNat] at ho9; rw [← Ny417.out] at ho9)); have HO419 := Aside0.mk (Kd.R_lower ho9 (below_size (by repeat (first | (with_reducible first | exact HB.out | apply below_alloc | apply pw_below_drewN | apply below_drew1 | refine below_set ?_ (IsS136.ge HI413.out)) | exact HB.out)))); replace HB := Aside0.mk (below_step (by repeat (first | (with_reducible first | exact HB.out | apply below_alloc | apply pw_below_drewN | apply below_drew1 | refine below_set ?_ (IsS136.ge HI413.out)) | exact HB.out)) hb); replace HI413 := Aside0.mk (IsS136.below (by repeat (first | (with_reducible first | exact HI413.out | apply IsS136.alloc | apply IsS136.drewN | apply IsS136.drew | apply IsS136.set_1 | apply IsS136.set_2) | exact HI413.out)) hb); clear hb ho9; obtain ⟨Ao10, co10, rfl⟩ := Kd.R_slice HO419.out) | ((with_reducible refine gC 101 rfl ?_); refine goesZ (some 10) rfl Try.func101 #[.pointer (some ⟨g413, 0, none⟩), .slice Ao10 y417.length co10] ?_; (with_reducible refine (spec_l1PickInt.calls g413 t410 t415 t416 _ _ y417 t420 t421 t422 w _ ?side1 ?side2 ?side3 ?side4 ?side5 A5.out).mono ?_); (case side1 => repeat (first | (with_reducible first | exact HI413.out | apply IsS136.alloc | apply IsS136.drewN | apply IsS136.drew | apply IsS136.set_1 | apply IsS136.set_2) | exact HI413.out)); (case side2 => repeat (first | (with_reducible first | exact HB.out | apply below_alloc | apply pw_below_drewN | apply below_drew1 | refine below_set ?_ (IsS136.ge HI413.out)) | exact HB.out)); (case side3 => exact ca ((Kd.R_reads' HO419.out).2.2)); (case side4 => exact (Kd.R_reads' HO419.out).2.1); (case side5 => exact far_slice (IsS136.own_ne HI413.out HO419.out (by decide))); rintro e w11 ⟨rfl, hi, hb, hk⟩; refine ⟨_, rfl, ?_⟩; replace HO419 := Aside0.mk (Kd.R_mono (Kd.R_keep (IsS136.apart (show IsS136 w _ g413 t410 t415 t416 from by repeat (first | (with_reducible first | exact HI413.out | apply IsS136.alloc | apply IsS136.drewN | apply IsS136.drew | apply IsS136.set_1 | apply IsS136.set_2) | exact HI413.out)) (rpR HO419.out) (by decide)) hk (fun _ h => h.2)) (fun _ h => h.1)); replace HB := Aside0.mk (hb); replace HI413 := Aside0.mk (hi); (try clear hb hk hi)))
  go_ret
  exact ⟨fe, by repeat (first | (with_reducible first | exact HB.out | apply below_alloc | apply pw_below_drewN | apply below_drew1 | refine below_set ?_ (IsS136.ge HI413.out)) | exact HB.out)⟩
 ·replace c4 := Bool.eq_false_iff.mpr c4
  subst c4
  replace H := iF H
  replace H := Option.bind_eq_some_iff.mp H
  obtain ⟨⟨t423, t424, t425⟩, A120, H⟩ := H
  replace H : (some (wrap64 (t423 - 1000))) = some r := H
  have A12 := Aside0.mk A120
  clear A120
  obtain rfl := Option.some.inj H
  go_enter Try.func52, Try.ntmps52
  go_wp2_with (first | ((with_reducible refine gC 87 rfl ?_); refine goesZ (some 5) rfl Try.func87 #[.slice A0 l0.length c0] ?_; (with_reducible refine (spec_l1New.calls k _ _ l0 t410 t411 t412 w _ ?side1 ?side2 ?side3 A2.out).mono ?_); (case side1 => repeat (first | (with_reducible first | exact HB.out | apply below_alloc | apply pw_below_drewN | apply below_drew1) | exact HB.out)); (case side2 => exact HR0.out); (case side3 => exact HC0.out); rintro e w13 ⟨g413, rfl, hi, hb, hb2⟩; refine ⟨_, rfl, ?_⟩; replace HB := Aside0.mk (hb); have HI413 := Aside0.mk (hi); (try clear hb hb2 hi)) | ((with_reducible refine gC 91 rfl ?_); refine goesZ (some 7) rfl Try.func91 #[.pointer (some ⟨g413, 0, none⟩), .int .i64 4] ?_; (with_reducible refine (spec_l1Once.calls g413 t410 t411 t412 4 false t415 t416 w _ ?side1 ?side2 A3.out).mono ?_); (case side1 => repeat (first | (with_reducible first | exact HI413.out | apply IsS136.alloc | apply IsS136.drewN | apply IsS136.drew | apply IsS136.set_1 | apply IsS136.set_2) | exact HI413.out)); (case side2 => repeat (first | (with_reducible first | exact HB.out | apply below_alloc | apply pw_below_drewN | apply below_drew1 | refine below_set ?_ (IsS136.ge HI413.out)) | exact HB.out)); rintro e w14 ⟨rfl, hi, hb, hk⟩; refine ⟨_, rfl, ?_⟩; replace HB := Aside0.mk (hb); replace HI413 := Aside0.mk (hi); (try clear hb hk hi)) | ((with_reducible refine gC 102 rfl ?_); refine goesZ (some 12) rfl Try.func102 #[.pointer (some ⟨g413, 0, none⟩), .int .i64 2000] ?_; (with_reducible refine (spec_l1Below.calls g413 t410 t415 t416 2000 t423 t424 t425 w _ ?side1 ?side2 A12.out).mono ?_); (case side1 => repeat (first | (with_reducible first | exact HI413.out | apply IsS136.alloc | apply IsS136.drewN | apply IsS136.drew | apply IsS136.set_1 | apply IsS136.set_2) | exact HI413.out)); (case side2 => repeat (first | (with_reducible first | exact HB.out | apply below_alloc | apply pw_below_drewN | apply below_drew1 | refine below_set ?_ (IsS136.ge HI413.out)) | exact HB.out)); rintro e w15 ⟨rfl, hi, hb, hk⟩; refine ⟨_, rfl, ?_⟩; replace HB := Aside0.mk (hb); replace HI413 := Aside0.mk (hi); (try clear hb hk hi)))
  go_ret
  exact ⟨fe, by repeat (first | (with_reducible first | exact HB.out | apply below_alloc | apply pw_below_drewN | apply below_drew1 | refine below_set ?_ (IsS136.ge HI413.out)) | exact HB.out)⟩

end Go.Proofs.Ytfmddjbekophnaa.PFnBits
