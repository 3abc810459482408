-- PRINTED by print.py (a twelfth state) out of the translation. Not trusted: Lean checks it.
import Derived.Test.YtfmddjbekophnaaPFnBitsx0
import Derived.Test.YtfmddjbekophnaaPFnBitsx2
import Derived.Test.YtfmddjbekophnaaPFnBitsx3
import Derived.Test.YtfmddjbekophnaaPFnBitsx4
import Derived.Test.YtfmddjbekophnaaZip
namespace Go.Proofs.Ytfmddjbekophnaa.PFnBits
open Go.RowKit Go.Proofs.YtfmddjbekophnaaW.PrintWords Go.Proofs.YtfmddjbekophnaaW.PrintLast Go.Proofs.YtfmddjbekophnaaW.PrintMore Go.Proofs.Ytfmddjbekophnaa.Zip
attribute [local go_sem] max2_int min2_int max_two min_two max_three min_three max_four min_four   -- for this text's walks alone
set_option linter.unusedVariables false
set_option linter.unusedSimpArgs false

/-! ### spec_l7Times: function 98 -/
mutual
def spec_l7Times.j0 : Nat → Int → List Int → Int → List Int → Int → Int → Option (List Int × Int × Int)
 | 0, _, _, _, _, _, _ => none
 | k + 1, x1, x5, x6, x1000, x1001, x1002 => (spec_l1Below.f x1000 x1001 x1002 40).bind fun bt262 => ((spec_l1Below.f x1000 bt262.2.1 bt262.2.2 x1).bind fun bt265 => (spec_l7Times.l0 k x5 x6 (wrap64 (1 + bt262.1)) (wrap64 (1 + bt265.1)) x1000 bt265.2.1 bt265.2.2))
def spec_l7Times.l0 : Nat → List Int → Int → Int → Int → List Int → Int → Int → Option (List Int × Int × Int)
 | 0, _, _, _, _, _, _, _ => none
 | k + 1, x5, x6, x7, x8, x1000, x1001, x1002 => if x8 > 0 then (if x5.length < 17592186044416 then ((some (x5 ++ [x6] : List Int)).bind fun y268 => ((spec_l1Once.f x1000 x1001 x1002 3).bind fun bt271 => (if bt271.1 = true then ((spec_l1Below.f x1000 bt271.2.1 bt271.2.2 60).bind fun bt274 => (spec_l7Times.l0 k y268 (wrap64 ((wrap64 (x6 + x7)) + bt274.1)) x7 (wrap64 (x8 - 1)) x1000 bt274.2.1 bt274.2.2)) else (spec_l7Times.l0 k y268 (wrap64 (x6 + x7)) x7 (wrap64 (x8 - 1)) x1000 bt271.2.1 bt271.2.2)))) else (none)) else ((spec_l1Once.f x1000 x1001 x1002 10).bind fun bt277 => (if bt277.1 = true then ((spec_l1PickInt.f x1000 bt277.2.1 bt277.2.2 (([(-1), 0, 1099511627776, 1099511627777, 100] : List Int))).bind fun bt283 => (if 0 ≤ (wrap64 ((x5.length : Int) - 1)) then (if (wrap64 ((x5.length : Int) - 1)) < (x5.length : Int) then (spec_l7Times.j2 k (x5.set ((wrap64 ((x5.length : Int) - 1)) : Int).toNat bt283.1) x1000 bt283.2.1 bt283.2.2) else (none)) else (none))) else (spec_l7Times.j2 k x5 x1000 bt277.2.1 bt277.2.2)))
def spec_l7Times.j2 : Nat → List Int → List Int → Int → Int → Option (List Int × Int × Int)
 | 0, _, _, _, _ => none
 | k + 1, x5, x1000, x1001, x1002 => (spec_l1Once.f x1000 x1001 x1002 40).bind fun bt287 => (if bt287.1 = true then ((spec_l1Below.f x1000 bt287.2.1 bt287.2.2 2).bind fun bt290 => (spec_l7Times.l1 k (([] : List Int)) (wrap64 (60 + bt290.1)) x1000 bt290.2.1 bt290.2.2)) else (some (x5, bt287.2.1, bt287.2.2)))
def spec_l7Times.l1 : Nat → List Int → Int → List Int → Int → Int → Option (List Int × Int × Int)
 | 0, _, _, _, _, _ => none
 | k + 1, x5, x9, x1000, x1001, x1002 => if (x5.length : Int) < x9 then (if x5.length < 17592186044416 then (spec_l7Times.l1 k (x5 ++ [wrap64 (3 * (x5.length : Int))]) x9 x1000 x1001 x1002) else (none)) else (some (x5, x1001, x1002))
end
def spec_l7Times.f (k : Nat) (s0_0 : List Int) (s0_1 : Int) (s0_2 : Int) (a1 : Int) : Option (List Int × Int × Int) := (some (([] : List Int) : List Int)).bind fun y250 => ((spec_l1Below.f s0_0 s0_1 s0_2 400).bind fun bt253 => ((spec_l1Once.f s0_0 bt253.2.1 bt253.2.2 12).bind fun bt256 => (if bt256.1 = true then ((spec_l1Below.f s0_0 bt256.2.1 bt256.2.2 300).bind fun bt259 => (spec_l7Times.j0 k a1 y250 (wrap64 (1099511627776 - bt259.1)) s0_0 bt259.2.1 bt259.2.2)) else (spec_l7Times.j0 k a1 y250 bt253.1 s0_0 bt256.2.1 bt256.2.2))))
theorem spec_l7Times.mono_l : ∀ k, (∀ y0 y1 y2 y3 y4 y5, LeO (spec_l7Times.j0 k y0 y1 y2 y3 y4 y5) (spec_l7Times.j0 (k + 1) y0 y1 y2 y3 y4 y5)) ∧ (∀ y0 y1 y2 y3 y4 y5 y6, LeO (spec_l7Times.l0 k y0 y1 y2 y3 y4 y5 y6) (spec_l7Times.l0 (k + 1) y0 y1 y2 y3 y4 y5 y6)) ∧ (∀ y0 y1 y2 y3, LeO (spec_l7Times.j2 k y0 y1 y2 y3) (spec_l7Times.j2 (k + 1) y0 y1 y2 y3)) ∧ (∀ y0 y1 y2 y3 y4, LeO (spec_l7Times.l1 k y0 y1 y2 y3 y4) (spec_l7Times.l1 (k + 1) y0 y1 y2 y3 y4))
 | 0 => ⟨fun _ _ _ _ _ _ r h => by simp [spec_l7Times.j0] at h, fun _ _ _ _ _ _ _ r h => by simp [spec_l7Times.l0] at h, fun _ _ _ _ r h => by simp [spec_l7Times.j2] at h, fun _ _ _ _ _ r h => by simp [spec_l7Times.l1] at h⟩
 | k + 1 => by
  obtain ⟨ih0, ih1, ih2, ih3⟩ := spec_l7Times.mono_l k
  refine ⟨?_, ?_, ?_, ?_⟩
  ·intro y0 y1 y2 y3 y4 y5
   unfold spec_l7Times.j0
   repeat' first
   | (with_reducible exact ih0 _ _ _ _ _ _)
   | (with_reducible exact ih1 _ _ _ _ _ _ _)
   | (with_reducible exact ih2 _ _ _ _)
   | (with_reducible exact ih3 _ _ _ _ _)
   | (with_reducible exact LeO.refl _)
   | (with_reducible exact LeO.none _)
   | (with_reducible refine LeO.ite ?_ ?_)
   | (with_reducible refine LeO.bind ?_ (fun _ => ?_))
   | exact ih0 _ _ _ _ _ _
   | exact ih1 _ _ _ _ _ _ _
   | exact ih2 _ _ _ _
   | exact ih3 _ _ _ _ _
   | exact LeO.none _
   | refine LeO.ite ?_ ?_
   | refine LeO.bind ?_ (fun _ => ?_)
  ·intro y0 y1 y2 y3 y4 y5 y6
   unfold spec_l7Times.l0
   repeat' first
   | (with_reducible exact ih0 _ _ _ _ _ _)
   | (with_reducible exact ih1 _ _ _ _ _ _ _)
   | (with_reducible exact ih2 _ _ _ _)
   | (with_reducible exact ih3 _ _ _ _ _)
   | (with_reducible exact LeO.refl _)
   | (with_reducible exact LeO.none _)
   | (with_reducible refine LeO.ite ?_ ?_)
   | (with_reducible refine LeO.bind ?_ (fun _ => ?_))
   | exact ih0 _ _ _ _ _ _
   | exact ih1 _ _ _ _ _ _ _
   | exact ih2 _ _ _ _
   | exact ih3 _ _ _ _ _
   | exact LeO.none _
   | refine LeO.ite ?_ ?_
   | refine LeO.bind ?_ (fun _ => ?_)
  ·intro y0 y1 y2 y3
   unfold spec_l7Times.j2
   repeat' first
   | (with_reducible exact ih0 _ _ _ _ _ _)
   | (with_reducible exact ih1 _ _ _ _ _ _ _)
   | (with_reducible exact ih2 _ _ _ _)
   | (with_reducible exact ih3 _ _ _ _ _)
   | (with_reducible exact LeO.refl _)
   | (with_reducible exact LeO.none _)
   | (with_reducible refine LeO.ite ?_ ?_)
   | (with_reducible refine LeO.bind ?_ (fun _ => ?_))
   | exact ih0 _ _ _ _ _ _
   | exact ih1 _ _ _ _ _ _ _
   | exact ih2 _ _ _ _
   | exact ih3 _ _ _ _ _
   | exact LeO.none _
   | refine LeO.ite ?_ ?_
   | refine LeO.bind ?_ (fun _ => ?_)
  ·intro y0 y1 y2 y3 y4
   unfold spec_l7Times.l1
   repeat' first
   | (with_reducible exact ih0 _ _ _ _ _ _)
   | (with_reducible exact ih1 _ _ _ _ _ _ _)
   | (with_reducible exact ih2 _ _ _ _)
   | (with_reducible exact ih3 _ _ _ _ _)
   | (with_reducible exact LeO.refl _)
   | (with_reducible exact LeO.none _)
   | (with_reducible refine LeO.ite ?_ ?_)
   | (with_reducible refine LeO.bind ?_ (fun _ => ?_))
   | exact ih0 _ _ _ _ _ _
   | exact ih1 _ _ _ _ _ _ _
   | exact ih2 _ _ _ _
   | exact ih3 _ _ _ _ _
   | exact LeO.none _
   | refine LeO.ite ?_ ?_
   | refine LeO.bind ?_ (fun _ => ?_)
theorem spec_l7Times.mono : ∀ a0 a1 a2 a3 k, LeO (spec_l7Times.f k a0 a1 a2 a3) (spec_l7Times.f (k + 1) a0 a1 a2 a3) := by
 intro a0 a1 a2 a3 k
 obtain ⟨ih0, ih1, ih2, ih3⟩ := spec_l7Times.mono_l k
 unfold spec_l7Times.f
 repeat' first
  | (with_reducible exact ih0 _ _ _ _ _ _)
  | (with_reducible exact ih1 _ _ _ _ _ _ _)
  | (with_reducible exact ih2 _ _ _ _)
  | (with_reducible exact ih3 _ _ _ _ _)
  | (with_reducible exact LeO.refl _)
  | (with_reducible exact LeO.none _)
  | (with_reducible refine LeO.ite ?_ ?_)
  | (with_reducible refine LeO.bind ?_ (fun _ => ?_))
  | exact ih0 _ _ _ _ _ _
  | exact ih1 _ _ _ _ _ _ _
  | exact ih2 _ _ _ _
  | exact ih3 _ _ _ _ _
  | exact LeO.none _
  | refine LeO.ite ?_ ?_
  | refine LeO.bind ?_ (fun _ => ?_)
set_option maxHeartbeats 8000000 in
set_option maxRecDepth 100000 in
theorem spec_l7Times.calls (k : Nat) (g : Nat) (s0_0 : List Int) (s0_1 : Int) (s0_2 : Int) (a1 : Int) (r1 : List Int) (r2 : Int) (r3 : Int) (w0 w : World) (hI : IsS136 w0 w g s0_0 s0_1 s0_2) (hB : Below w0.heap.size w0 w) (h : spec_l7Times.f k s0_0 s0_1 s0_2 a1 = some (r1, r2, r3)) :
 Calls Try.prog 98 #[.pointer (some ⟨g, 0, none⟩), .int .i64 a1] w fun e w' => ∃ v0_ : Value, e = .returned (v0_) ∧ Kd.R (Kd.int .i64) 3 w' w.heap.size (fun _ => True) v0_ r1 ∧ IsS136 w0 w' g s0_0 r2 r3 ∧ Below w0.heap.size w0 w' ∧ KeepBut w w' g none := by
 have HI0 := Aside0.mk hI
 have HK := Aside0.mk (KeepBut.refl w g none)
 have HL := Aside0.mk hB.size
 clear hI
 have HW0 := Aside0.mk hB.size
 have HB := Aside0.mk hB
 clear hB
 have H : ((some (([] : List Int) : List Int)).bind fun y250 => ((spec_l1Below.f s0_0 s0_1 s0_2 400).bind fun bt253 => ((spec_l1Once.f s0_0 bt253.2.1 bt253.2.2 12).bind fun bt256 => (if bt256.1 = true then ((spec_l1Below.f s0_0 bt256.2.1 bt256.2.2 300).bind fun bt259 => (spec_l7Times.j0 k a1 y250 (wrap64 (1099511627776 - bt259.1)) s0_0 bt259.2.1 bt259.2.2)) else (spec_l7Times.j0 k a1 y250 bt253.1 s0_0 bt256.2.1 bt256.2.2))))) = some (r1, r2, r3) := h
 clear h
 obtain ⟨y250, hy250⟩ : ∃ y_ : List Int, y_ = (([] : List Int)) := ⟨_, rfl⟩
 replace H : ((spec_l1Below.f s0_0 s0_1 s0_2 400).bind fun bt253 => ((spec_l1Once.f s0_0 bt253.2.1 bt253.2.2 12).bind fun bt256 => (if bt256.1 = true then ((spec_l1Below.f s0_0 bt256.2.1 bt256.2.2 300).bind fun bt259 => (spec_l7Times.j0 k a1 y250 (wrap64 (1099511627776 - bt259.1)) s0_0 bt259.2.1 bt259.2.2)) else (spec_l7Times.j0 k a1 y250 bt253.1 s0_0 bt256.2.1 bt256.2.2)))) = some (r1, r2, r3) := by first | (rw [hy250]; with_reducible exact H) | (have H2_ := (Option.bind_some _ _).symm.trans H; rw [hy250]; with_reducible exact H2_) | (have H2_ := (Option.bind_some _ _).symm.trans H; with_reducible exact H2_) | with_reducible exact H | (rw [hy250]; exact H) | exact H
 have Ny250 := Aside0.mk hy250
 clear hy250
 replace H := Option.bind_eq_some_iff.mp H
 obtain ⟨⟨t253, t254, t255⟩, A30, H⟩ := H
 replace H : ((spec_l1Once.f s0_0 t254 t255 12).bind fun bt256 => (if bt256.1 = true then ((spec_l1Below.f s0_0 bt256.2.1 bt256.2.2 300).bind fun bt259 => (spec_l7Times.j0 k a1 y250 (wrap64 (1099511627776 - bt259.1)) s0_0 bt259.2.1 bt259.2.2)) else (spec_l7Times.j0 k a1 y250 t253 s0_0 bt256.2.1 bt256.2.2))) = some (r1, r2, r3) := H
 have A3 := Aside0.mk A30
 clear A30
 replace H := Option.bind_eq_some_iff.mp H
 obtain ⟨⟨t256, t257, t258⟩, A40, H⟩ := H
 replace H : (if t256 = true then ((spec_l1Below.f s0_0 t257 t258 300).bind fun bt259 => (spec_l7Times.j0 k a1 y250 (wrap64 (1099511627776 - bt259.1)) s0_0 bt259.2.1 bt259.2.2)) else (spec_l7Times.j0 k a1 y250 t253 s0_0 t257 t258)) = some (r1, r2, r3) := H
 have A4 := Aside0.mk A40
 clear A40
 have HC5 := Aside0.mk H
 clear H
 go_enter Try.func98, Try.ntmps98
 go_upto_if 14 with (first | ((with_reducible refine gD 10 rfl ?_); refine Kd.R_lit (Kd.int .i64) _ 3 ?hg (N := 10) ?hd (xs := ([] : List Int)) (inner := []) (ok := fun _ => True) (okp := fun _ => True) ?hr ?hp (fun _ hk => hk) trivial (Below.refl _ _) (Nat.le_refl _) (by simp) ?_; (case hd => rfl); (case hg => rfl); (case hr => first | (go_simp; done) | (go_simp; rfl)); (case hp => exact (Reps.none _ _)); intro v251 w6 ho7 hb hg_ hnew_; clear hg_ hnew_; (first | rw [← Ny250.out] at ho7 | (simp only [Int.reduceToNat] at ho7; rw [← Ny250.out] at ho7)); have HO252 := Aside0.mk (Kd.R_lower ho7 (keep_size (w := w) (g := g) (row := none) (by repeat (first | (with_reducible first | exact HK.out | apply KeepBut.set_ | apply keep_drewN | apply keep_drew | apply keep_alloc) | exact HK.out)))); replace HK := Aside0.mk (KeepBut.trans (by repeat (first | (with_reducible first | exact HK.out | apply KeepBut.set_ | apply keep_drewN | apply keep_drew | apply keep_alloc) | exact HK.out)) (KeepBut.of_below hb g none) (.inl rfl)); replace HB := Aside0.mk (below_step (by repeat (first | (with_reducible first | exact HB.out | apply below_alloc | apply pw_below_drewN | apply below_drew1 | refine below_set ?_ (IsS136.ge HI0.out)) | exact HB.out)) hb); replace HI0 := Aside0.mk (IsS136.below (by repeat (first | (with_reducible first | exact HI0.out | apply IsS136.alloc | apply IsS136.drewN | apply IsS136.drew | apply IsS136.set_1 | apply IsS136.set_2) | exact HI0.out)) hb); clear hb ho7) | ((with_reducible refine gC 102 rfl ?_); refine goesZ (some 12) rfl Try.func102 #[.pointer (some ⟨g, 0, none⟩), .int .i64 400] ?_; (with_reducible refine (spec_l1Below.calls g s0_0 s0_1 s0_2 400 t253 t254 t255 w0 _ ?side1 ?side2 A3.out).mono ?_); (case side1 => repeat (first | (with_reducible first | exact HI0.out | apply IsS136.alloc | apply IsS136.drewN | apply IsS136.drew | apply IsS136.set_1 | apply IsS136.set_2) | exact HI0.out)); (case side2 => repeat (first | (with_reducible first | exact HB.out | apply below_alloc | apply pw_below_drewN | apply below_drew1 | refine below_set ?_ (IsS136.ge HI0.out)) | exact HB.out)); rintro e w8 ⟨rfl, hi, hb, hk⟩; refine ⟨_, rfl, ?_⟩; replace HO252 := Aside0.mk (Kd.R_mono (Kd.R_keep (IsS136.apart (show IsS136 w0 _ g s0_0 s0_1 s0_2 from by repeat (first | (with_reducible first | exact HI0.out | apply IsS136.alloc | apply IsS136.drewN | apply IsS136.drew | apply IsS136.set_1 | apply IsS136.set_2) | exact HI0.out)) (rpR HO252.out) (by decide)) hk (fun _ h => h.2)) (fun _ h => h.1)); replace HK := Aside0.mk (KeepBut.trans (by repeat (first | (with_reducible first | exact HK.out | apply KeepBut.set_ | apply keep_drewN | apply keep_drew | apply keep_alloc) | exact HK.out)) hk (.inl rfl)); replace HB := Aside0.mk (hb); replace HI0 := Aside0.mk (hi); (try clear hb hk hi)) | ((with_reducible refine gC 91 rfl ?_); refine goesZ (some 14) rfl Try.func91 #[.pointer (some ⟨g, 0, none⟩), .int .i64 12] ?_; (with_reducible refine (spec_l1Once.calls g s0_0 t254 t255 12 t256 t257 t258 w0 _ ?side1 ?side2 A4.out).mono ?_); (case side1 => repeat (first | (with_reducible first | exact HI0.out | apply IsS136.alloc | apply IsS136.drewN | apply IsS136.drew | apply IsS136.set_1 | apply IsS136.set_2) | exact HI0.out)); (case side2 => repeat (first | (with_reducible first | exact HB.out | apply below_alloc | apply pw_below_drewN | apply below_drew1 | refine below_set ?_ (IsS136.ge HI0.out)) | exact HB.out)); rintro e w9 ⟨rfl, hi, hb, hk⟩; refine ⟨_, rfl, ?_⟩; replace HO252 := Aside0.mk (Kd.R_mono (Kd.R_keep (IsS136.apart (show IsS136 w0 _ g s0_0 t254 t255 from by repeat (first | (with_reducible first | exact HI0.out | apply IsS136.alloc | apply IsS136.drewN | apply IsS136.drew | apply IsS136.set_1 | apply IsS136.set_2) | exact HI0.out)) (rpR HO252.out) (by decide)) hk (fun _ h => h.2)) (fun _ h => h.1)); replace HK := Aside0.mk (KeepBut.trans (by repeat (first | (with_reducible first | exact HK.out | apply KeepBut.set_ | apply keep_drewN | apply keep_drew | apply keep_alloc) | exact HK.out)) hk (.inl rfl)); replace HB := Aside0.mk (hb); replace HI0 := Aside0.mk (hi); (try clear hb hk hi)))
 (try simp only [Act.put, List.setIfInBounds_toArray, List.set_cons_zero, List.set_cons_succ])
 go_cut [6] (fun v6 wc => ∃ (kq : Nat) (x6_4 : Int) (x1001_4 : Int) (x1002_4 : Int), v6 = .int .i64 x6_4 ∧ Aside0 (spec_l7Times.j0 kq a1 y250 x6_4 s0_0 x1001_4 x1002_4 = some (r1, r2, r3)) ∧ Aside0 (kq ≤ k) ∧ Aside0 (Kd.R (Kd.int .i64) 3 wc w.heap.size (fun _ => True) v251 y250) ∧ Aside0 (IsS136 w0 wc g s0_0 x1001_4 x1002_4) ∧ Aside0 (KeepBut w wc g none) ∧ Aside0 (Below w0.heap.size w0 wc))
 case first =>
  have H := HC5.out
  clear HC5
  by_cases c10 : t256 = true
  ·subst c10
   replace H := iT H
   replace H := Option.bind_eq_some_iff.mp H
   obtain ⟨⟨t259, t260, t261⟩, A110, H⟩ := H
   replace H : (spec_l7Times.j0 k a1 y250 (wrap64 (1099511627776 - t259)) s0_0 t260 t261) = some (r1, r2, r3) := H
   have A11 := Aside0.mk A110
   clear A110
   have H' := Aside0.mk H
   clear H
   go_wp2_with (first | ((with_reducible refine gC 102 rfl ?_); refine goesZ (some 16) rfl Try.func102 #[.pointer (some ⟨g, 0, none⟩), .int .i64 300] ?_; (with_reducible refine (spec_l1Below.calls g s0_0 t257 t258 300 t259 t260 t261 w0 _ ?side1 ?side2 A11.out).mono ?_); (case side1 => repeat (first | (with_reducible first | exact HI0.out | apply IsS136.alloc | apply IsS136.drewN | apply IsS136.drew | apply IsS136.set_1 | apply IsS136.set_2) | exact HI0.out)); (case side2 => repeat (first | (with_reducible first | exact HB.out | apply below_alloc | apply pw_below_drewN | apply below_drew1 | refine below_set ?_ (IsS136.ge HI0.out)) | exact HB.out)); rintro e w12 ⟨rfl, hi, hb, hk⟩; refine ⟨_, rfl, ?_⟩; replace HO252 := Aside0.mk (Kd.R_mono (Kd.R_keep (IsS136.apart (show IsS136 w0 _ g s0_0 t257 t258 from by repeat (first | (with_reducible first | exact HI0.out | apply IsS136.alloc | apply IsS136.drewN | apply IsS136.drew | apply IsS136.set_1 | apply IsS136.set_2) | exact HI0.out)) (rpR HO252.out) (by decide)) hk (fun _ h => h.2)) (fun _ h => h.1)); replace HK := Aside0.mk (KeepBut.trans (by repeat (first | (with_reducible first | exact HK.out | apply KeepBut.set_ | apply keep_drewN | apply keep_drew | apply keep_alloc) | exact HK.out)) hk (.inl rfl)); replace HB := Aside0.mk (hb); replace HI0 := Aside0.mk (hi); (try clear hb hk hi)))
   go_meet
   case rel => exact ⟨_, (wrap64 (1099511627776 - t259)), (t260), (t261), fa, H', ⟨by first | omega | exact Nat.le_refl _⟩, ⟨rpR HO252.out⟩, ⟨by repeat (first | (with_reducible first | exact HI0.out | apply IsS136.alloc | apply IsS136.drewN | apply IsS136.drew | apply IsS136.set_1 | apply IsS136.set_2) | exact HI0.out)⟩, ⟨by repeat (first | (with_reducible first | exact HK.out | apply KeepBut.set_ | apply keep_drewN | apply keep_drew | apply keep_alloc) | exact HK.out)⟩, ⟨by repeat (first | (with_reducible first | exact HB.out | apply below_alloc | apply pw_below_drewN | apply below_drew1 | refine below_set ?_ (IsS136.ge HI0.out)) | exact HB.out)⟩⟩
  ·replace c10 := Bool.eq_false_iff.mpr c10
   subst c10
   replace H := iF H
   have H' := Aside0.mk H
   clear H
   go_wp2
   go_meet
   case rel => exact ⟨_, (t253), (t257), (t258), fa, H', ⟨by first | omega | exact Nat.le_refl _⟩, ⟨rpR HO252.out⟩, ⟨by repeat (first | (with_reducible first | exact HI0.out | apply IsS136.alloc | apply IsS136.drewN | apply IsS136.drew | apply IsS136.set_1 | apply IsS136.set_2) | exact HI0.out)⟩, ⟨by repeat (first | (with_reducible first | exact HK.out | apply KeepBut.set_ | apply keep_drewN | apply keep_drew | apply keep_alloc) | exact HK.out)⟩, ⟨by repeat (first | (with_reducible first | exact HB.out | apply below_alloc | apply pw_below_drewN | apply below_drew1 | refine below_set ?_ (IsS136.ge HI0.out)) | exact HB.out)⟩⟩
 case rest =>
  clear HC5
  try clear c1
  try clear p2
  try clear p6
  try clear c9
  try clear c10
  obtain ⟨kq, x6_4, x1001_4, x1002_4, rfl, HA, HJ4, HO_5, HI0, HK, HB⟩ := hcut
  cases kq with
  | zero => exact absurd HA.out (by simp [spec_l7Times.j0])
  | succ kj4 =>
   have H := HA.out
   clear HA
   simp only [spec_l7Times.j0] at H
   replace H := Option.bind_eq_some_iff.mp H
   obtain ⟨⟨t262, t263, t264⟩, A130, H⟩ := H
   replace H : ((spec_l1Below.f s0_0 t263 t264 a1).bind fun bt265 => (spec_l7Times.l0 kj4 y250 x6_4 (wrap64 (1 + t262)) (wrap64 (1 + bt265.1)) s0_0 bt265.2.1 bt265.2.2)) = some (r1, r2, r3) := H
   have A13 := Aside0.mk A130
   clear A130
   replace H := Option.bind_eq_some_iff.mp H
   obtain ⟨⟨t265, t266, t267⟩, A140, H⟩ := H
   replace H : (spec_l7Times.l0 kj4 y250 x6_4 (wrap64 (1 + t262)) (wrap64 (1 + t265)) s0_0 t266 t267) = some (r1, r2, r3) := H
   have A14 := Aside0.mk A140
   clear A140
   have H' := Aside0.mk H
   clear H
   go_wp2_with (first | ((with_reducible refine gC 102 rfl ?_); refine goesZ (some 19) rfl Try.func102 #[.pointer (some ⟨g, 0, none⟩), .int .i64 40] ?_; (with_reducible refine (spec_l1Below.calls g s0_0 x1001_4 x1002_4 40 t262 t263 t264 w0 _ ?side1 ?side2 A13.out).mono ?_); (case side1 => repeat (first | (with_reducible first | exact HI0.out | apply IsS136.alloc | apply IsS136.drewN | apply IsS136.drew | apply IsS136.set_1 | apply IsS136.set_2) | exact HI0.out)); (case side2 => repeat (first | (with_reducible first | exact HB.out | apply below_alloc | apply pw_below_drewN | apply below_drew1 | refine below_set ?_ (IsS136.ge HI0.out)) | exact HB.out)); rintro e w15 ⟨rfl, hi, hb, hk⟩; refine ⟨_, rfl, ?_⟩; replace HO_5 := Aside0.mk (Kd.R_mono (Kd.R_keep (IsS136.apart (show IsS136 w0 _ g s0_0 x1001_4 x1002_4 from by repeat (first | (with_reducible first | exact HI0.out | apply IsS136.alloc | apply IsS136.drewN | apply IsS136.drew | apply IsS136.set_1 | apply IsS136.set_2) | exact HI0.out)) (rpR HO_5.out) (by decide)) hk (fun _ h => h.2)) (fun _ h => h.1)); replace HK := Aside0.mk (KeepBut.trans (by repeat (first | (with_reducible first | exact HK.out | apply KeepBut.set_ | apply keep_drewN | apply keep_drew | apply keep_alloc) | exact HK.out)) hk (.inl rfl)); replace HB := Aside0.mk (hb); replace HI0 := Aside0.mk (hi); (try clear hb hk hi)) | ((with_reducible refine gC 102 rfl ?_); refine goesZ (some 23) rfl Try.func102 #[.pointer (some ⟨g, 0, none⟩), .int .i64 a1] ?_; (with_reducible refine (spec_l1Below.calls g s0_0 t263 t264 a1 t265 t266 t267 w0 _ ?side1 ?side2 A14.out).mono ?_); (case side1 => repeat (first | (with_reducible first | exact HI0.out | apply IsS136.alloc | apply IsS136.drewN | apply IsS136.drew | apply IsS136.set_1 | apply IsS136.set_2) | exact HI0.out)); (case side2 => repeat (first | (with_reducible first | exact HB.out | apply below_alloc | apply pw_below_drewN | apply below_drew1 | refine below_set ?_ (IsS136.ge HI0.out)) | exact HB.out)); rintro e w16 ⟨rfl, hi, hb, hk⟩; refine ⟨_, rfl, ?_⟩; replace HO_5 := Aside0.mk (Kd.R_mono (Kd.R_keep (IsS136.apart (show IsS136 w0 _ g s0_0 t263 t264 from by repeat (first | (with_reducible first | exact HI0.out | apply IsS136.alloc | apply IsS136.drewN | apply IsS136.drew | apply IsS136.set_1 | apply IsS136.set_2) | exact HI0.out)) (rpR HO_5.out) (by decide)) hk (fun _ h => h.2)) (fun _ h => h.1)); replace HK := Aside0.mk (KeepBut.trans (by repeat (first | (with_reducible first | exact HK.out | apply KeepBut.set_ | apply keep_drewN | apply keep_drew | apply keep_alloc) | exact HK.out)) hk (.inl rfl)); replace HB := Aside0.mk (hb); replace HI0 := Aside0.mk (hi); (try clear hb hk hi)))
   go_loopg [5, 6, 8] kj4 (fun kq v5 v6 v8 w' => ∃ (x5_2 : List Int) (x6_2 : Int) (x8_2 : Int) (x1001_2 : Int) (x1002_2 : Int), v6 = .int .i64 x6_2 ∧ v8 = .int .i64 x8_2 ∧ Aside0 (spec_l7Times.l0 kq x5_2 x6_2 (wrap64 (1 + t262)) x8_2 s0_0 x1001_2 x1002_2 = some (r1, r2, r3)) ∧ Aside0 (kq ≤ kj4) ∧ Aside0 (Kd.R (Kd.int .i64) 3 w' w.heap.size (fun _ => True) v5 x5_2) ∧ Aside0 (IsS136 w0 w' g s0_0 x1001_2 x1002_2) ∧ Aside0 (KeepBut w w' g none) ∧ Aside0 (Below w0.heap.size w0 w'))
   case atStart => exact ⟨(y250), (x6_4), (wrap64 (1 + t265)), (t266), (t267), fa, fa, H', ⟨Nat.le_refl _⟩, ⟨rpR HO_5.out⟩, ⟨by repeat (first | (with_reducible first | exact HI0.out | apply IsS136.alloc | apply IsS136.drewN | apply IsS136.drew | apply IsS136.set_1 | apply IsS136.set_2) | exact HI0.out)⟩, ⟨by repeat (first | (with_reducible first | exact HK.out | apply KeepBut.set_ | apply keep_drewN | apply keep_drew | apply keep_alloc) | exact HK.out)⟩, ⟨by repeat (first | (with_reducible first | exact HB.out | apply below_alloc | apply pw_below_drewN | apply below_drew1 | refine below_set ?_ (IsS136.ge HI0.out)) | exact HB.out)⟩⟩
   case round =>
    clear H'
    try clear c1
    try clear p2
    try clear p6
    try clear c9
    try clear c10
    try clear p2
    try clear p6
    obtain ⟨x5_2, x6_2, x8_2, x1001_2, x1002_2, rfl, rfl, HA, HK2, HO_5, HI0, HK, HB⟩ := hrel
    cases gk with
    | zero => exact absurd HA.out (by simp [spec_l7Times.l0])
    | succ k2 =>
     have H := HA.out
     clear HA
     simp only [spec_l7Times.l0] at H
     by_cases c17 : x8_2 > 0
     ·rw [if_pos c17] at H
      have c17b0 : decide (0 < x8_2) = true := decide_eq_true c17
      clear c17
      by_cases c18 : x5_2.length < 17592186044416
      ·rw [if_pos c18] at H
       have LMc18 := Aside0.mk c18
       clear c18
       obtain ⟨y268, hy268⟩ : ∃ y_ : List Int, y_ = (x5_2 ++ [x6_2]) := ⟨_, rfl⟩
       replace H : ((spec_l1Once.f s0_0 x1001_2 x1002_2 3).bind fun bt271 => (if bt271.1 = true then ((spec_l1Below.f s0_0 bt271.2.1 bt271.2.2 60).bind fun bt274 => (spec_l7Times.l0 k2 y268 (wrap64 ((wrap64 (x6_2 + (wrap64 (1 + t262)))) + bt274.1)) (wrap64 (1 + t262)) (wrap64 (x8_2 - 1)) s0_0 bt274.2.1 bt274.2.2)) else (spec_l7Times.l0 k2 y268 (wrap64 (x6_2 + (wrap64 (1 + t262)))) (wrap64 (1 + t262)) (wrap64 (x8_2 - 1)) s0_0 bt271.2.1 bt271.2.2))) = some (r1, r2, r3) := by first | (rw [hy268]; with_reducible exact H) | (have H2_ := (Option.bind_some _ _).symm.trans H; rw [hy268]; with_reducible exact H2_) | (have H2_ := (Option.bind_some _ _).symm.trans H; with_reducible exact H2_) | with_reducible exact H | (rw [hy268]; exact H) | exact H
       have Ny268 := Aside0.mk hy268
       clear hy268
       replace H := Option.bind_eq_some_iff.mp H
       obtain ⟨⟨t271, t272, t273⟩, A190, H⟩ := H
       replace H : (if t271 = true then ((spec_l1Below.f s0_0 t272 t273 60).bind fun bt274 => (spec_l7Times.l0 k2 y268 (wrap64 ((wrap64 (x6_2 + (wrap64 (1 + t262)))) + bt274.1)) (wrap64 (1 + t262)) (wrap64 (x8_2 - 1)) s0_0 bt274.2.1 bt274.2.2)) else (spec_l7Times.l0 k2 y268 (wrap64 (x6_2 + (wrap64 (1 + t262)))) (wrap64 (1 + t262)) (wrap64 (x8_2 - 1)) s0_0 t272 t273)) = some (r1, r2, r3) := H
       have A19 := Aside0.mk A190
       clear A190
       by_cases c20 : t271 = true
       ·subst c20
        replace H := iT H
        replace H := Option.bind_eq_some_iff.mp H
        obtain ⟨⟨t274, t275, t276⟩, A210, H⟩ := H
        replace H : (spec_l7Times.l0 k2 y268 (wrap64 ((wrap64 (x6_2 + (wrap64 (1 + t262)))) + t274)) (wrap64 (1 + t262)) (wrap64 (x8_2 - 1)) s0_0 t275 t276) = some (r1, r2, r3) := H
        have A21 := Aside0.mk A210
        clear A210
        have H' := Aside0.mk H
        clear H
        go_wp2_with (first | ((with_reducible refine gate_builtin (b := .append) (xs := #[.tmp 29, .tmp 31]) rfl ?_); at_builtin; refine Kd.R_append (Kd.int .i64) w.heap.size rfl (.tmp 29) (.tmp 31) 29 3 (.int .i64 0) 8 rfl Try.underlying29 info3 rfl (by decide) (by omega) u5 x5_2 x6_2 [.int .i64 x6_2] (fun _ => True) (fun _ => False) rfl rfl ?aP (fun _ hk => hk.elim) ?aF ?aO (Below.refl _ _) ?aS ?aL ?_; (case aP => exact rfl); (case aF => exact (fun _ _ => trivial)); (case aO => exact (rpR HO_5.out)); (case aS => exact (keep_size (w := w) (g := g) (row := none) (by repeat (first | (with_reducible first | exact HK.out | apply KeepBut.set_ | apply keep_drewN | apply keep_drew | apply keep_alloc) | exact HK.out)))); (case aL => have := LMc18.out; omega); intro v269 w22 ho hb hg hat; rw [← Ny268.out] at ho; replace HB := Aside0.mk (below_weaken (by repeat (first | (with_reducible first | exact HB.out | apply below_alloc | apply pw_below_drewN | apply below_drew1 | refine below_set ?_ (IsS136.ge HI0.out)) | exact HB.out)) HL.out hb); replace HI0 := Aside0.mk (IsS136.grown (by repeat (first | (with_reducible first | exact HI0.out | apply IsS136.alloc | apply IsS136.drewN | apply IsS136.drew | apply IsS136.set_1 | apply IsS136.set_2) | exact HI0.out)) hg (IsS136.own_ne HI0.out HO_5.out (by decide))); replace HK := Aside0.mk (KeepBut.trans (by repeat (first | (with_reducible first | exact HK.out | apply KeepBut.set_ | apply keep_drewN | apply keep_drew | apply keep_alloc) | exact HK.out)) (KeepBut.of_grown hg g) (Kd.R_base2 HO_5.out)); have HO270 := Aside0.mk (ho); clear HO_5; clear ho hb hg hat) | ((with_reducible refine gC 91 rfl ?_); refine goesZ (some 37) rfl Try.func91 #[.pointer (some ⟨g, 0, none⟩), .int .i64 3] ?_; (with_reducible refine (spec_l1Once.calls g s0_0 x1001_2 x1002_2 3 true t272 t273 w0 _ ?side1 ?side2 A19.out).mono ?_); (case side1 => repeat (first | (with_reducible first | exact HI0.out | apply IsS136.alloc | apply IsS136.drewN | apply IsS136.drew | apply IsS136.set_1 | apply IsS136.set_2) | exact HI0.out)); (case side2 => repeat (first | (with_reducible first | exact HB.out | apply below_alloc | apply pw_below_drewN | apply below_drew1 | refine below_set ?_ (IsS136.ge HI0.out)) | exact HB.out)); rintro e w23 ⟨rfl, hi, hb, hk⟩; refine ⟨_, rfl, ?_⟩; replace HO270 := Aside0.mk (Kd.R_mono (Kd.R_keep (IsS136.apart (show IsS136 w0 _ g s0_0 x1001_2 x1002_2 from by repeat (first | (with_reducible first | exact HI0.out | apply IsS136.alloc | apply IsS136.drewN | apply IsS136.drew | apply IsS136.set_1 | apply IsS136.set_2) | exact HI0.out)) (rpR HO270.out) (by decide)) hk (fun _ h => h.2)) (fun _ h => h.1)); replace HK := Aside0.mk (KeepBut.trans (by repeat (first | (with_reducible first | exact HK.out | apply KeepBut.set_ | apply keep_drewN | apply keep_drew | apply keep_alloc) | exact HK.out)) hk (.inl rfl)); replace HB := Aside0.mk (hb); replace HI0 := Aside0.mk (hi); (try clear hb hk hi)) | ((with_reducible refine gC 102 rfl ?_); refine goesZ (some 40) rfl Try.func102 #[.pointer (some ⟨g, 0, none⟩), .int .i64 60] ?_; (with_reducible refine (spec_l1Below.calls g s0_0 t272 t273 60 t274 t275 t276 w0 _ ?side1 ?side2 A21.out).mono ?_); (case side1 => repeat (first | (with_reducible first | exact HI0.out | apply IsS136.alloc | apply IsS136.drewN | apply IsS136.drew | apply IsS136.set_1 | apply IsS136.set_2) | exact HI0.out)); (case side2 => repeat (first | (with_reducible first | exact HB.out | apply below_alloc | apply pw_below_drewN | apply below_drew1 | refine below_set ?_ (IsS136.ge HI0.out)) | exact HB.out)); rintro e w24 ⟨rfl, hi, hb, hk⟩; refine ⟨_, rfl, ?_⟩; replace HO270 := Aside0.mk (Kd.R_mono (Kd.R_keep (IsS136.apart (show IsS136 w0 _ g s0_0 t272 t273 from by repeat (first | (with_reducible first | exact HI0.out | apply IsS136.alloc | apply IsS136.drewN | apply IsS136.drew | apply IsS136.set_1 | apply IsS136.set_2) | exact HI0.out)) (rpR HO270.out) (by decide)) hk (fun _ h => h.2)) (fun _ h => h.1)); replace HK := Aside0.mk (KeepBut.trans (by repeat (first | (with_reducible first | exact HK.out | apply KeepBut.set_ | apply keep_drewN | apply keep_drew | apply keep_alloc) | exact HK.out)) hk (.inl rfl)); replace HB := Aside0.mk (hb); replace HI0 := Aside0.mk (hi); (try clear hb hk hi)))
        go_roundg k2
        case measure => have := HJ4.out; have := HK2.out; omega
        case rel => exact ⟨(y268), (wrap64 ((wrap64 (x6_2 + (wrap64 (1 + t262)))) + t274)), (wrap64 (x8_2 - 1)), (t275), (t276), fa, fa, H', ⟨by have := HJ4.out; have := HK2.out; omega⟩, ⟨rpR HO270.out⟩, ⟨by repeat (first | (with_reducible first | exact HI0.out | apply IsS136.alloc | apply IsS136.drewN | apply IsS136.drew | apply IsS136.set_1 | apply IsS136.set_2) | exact HI0.out)⟩, ⟨by repeat (first | (with_reducible first | exact HK.out | apply KeepBut.set_ | apply keep_drewN | apply keep_drew | apply keep_alloc) | exact HK.out)⟩, ⟨by repeat (first | (with_reducible first | exact HB.out | apply below_alloc | apply pw_below_drewN | apply below_drew1 | refine below_set ?_ (IsS136.ge HI0.out)) | exact HB.out)⟩⟩
       ·replace c20 := Bool.eq_false_iff.mpr c20
        subst c20
        replace H := iF H
        have H' := Aside0.mk H
        clear H
        go_wp2_with (first | ((with_reducible refine gate_builtin (b := .append) (xs := #[.tmp 29, .tmp 31]) rfl ?_); at_builtin; refine Kd.R_append (Kd.int .i64) w.heap.size rfl (.tmp 29) (.tmp 31) 29 3 (.int .i64 0) 8 rfl Try.underlying29 info3 rfl (by decide) (by omega) u5 x5_2 x6_2 [.int .i64 x6_2] (fun _ => True) (fun _ => False) rfl rfl ?aP (fun _ hk => hk.elim) ?aF ?aO (Below.refl _ _) ?aS ?aL ?_; (case aP => exact rfl); (case aF => exact (fun _ _ => trivial)); (case aO => exact (rpR HO_5.out)); (case aS => exact (keep_size (w := w) (g := g) (row := none) (by repeat (first | (with_reducible first | exact HK.out | apply KeepBut.set_ | apply keep_drewN | apply keep_drew | apply keep_alloc) | exact HK.out)))); (case aL => have := LMc18.out; omega); intro v269 w25 ho hb hg hat; rw [← Ny268.out] at ho; replace HB := Aside0.mk (below_weaken (by repeat (first | (with_reducible first | exact HB.out | apply below_alloc | apply pw_below_drewN | apply below_drew1 | refine below_set ?_ (IsS136.ge HI0.out)) | exact HB.out)) HL.out hb); replace HI0 := Aside0.mk (IsS136.grown (by repeat (first | (with_reducible first | exact HI0.out | apply IsS136.alloc | apply IsS136.drewN | apply IsS136.drew | apply IsS136.set_1 | apply IsS136.set_2) | exact HI0.out)) hg (IsS136.own_ne HI0.out HO_5.out (by decide))); replace HK := Aside0.mk (KeepBut.trans (by repeat (first | (with_reducible first | exact HK.out | apply KeepBut.set_ | apply keep_drewN | apply keep_drew | apply keep_alloc) | exact HK.out)) (KeepBut.of_grown hg g) (Kd.R_base2 HO_5.out)); have HO270 := Aside0.mk (ho); clear HO_5; clear ho hb hg hat) | ((with_reducible refine gC 91 rfl ?_); refine goesZ (some 37) rfl Try.func91 #[.pointer (some ⟨g, 0, none⟩), .int .i64 3] ?_; (with_reducible refine (spec_l1Once.calls g s0_0 x1001_2 x1002_2 3 false t272 t273 w0 _ ?side1 ?side2 A19.out).mono ?_); (case side1 => repeat (first | (with_reducible first | exact HI0.out | apply IsS136.alloc | apply IsS136.drewN | apply IsS136.drew | apply IsS136.set_1 | apply IsS136.set_2) | exact HI0.out)); (case side2 => repeat (first | (with_reducible first | exact HB.out | apply below_alloc | apply pw_below_drewN | apply below_drew1 | refine below_set ?_ (IsS136.ge HI0.out)) | exact HB.out)); rintro e w26 ⟨rfl, hi, hb, hk⟩; refine ⟨_, rfl, ?_⟩; replace HO270 := Aside0.mk (Kd.R_mono (Kd.R_keep (IsS136.apart (show IsS136 w0 _ g s0_0 x1001_2 x1002_2 from by repeat (first | (with_reducible first | exact HI0.out | apply IsS136.alloc | apply IsS136.drewN | apply IsS136.drew | apply IsS136.set_1 | apply IsS136.set_2) | exact HI0.out)) (rpR HO270.out) (by decide)) hk (fun _ h => h.2)) (fun _ h => h.1)); replace HK := Aside0.mk (KeepBut.trans (by repeat (first | (with_reducible first | exact HK.out | apply KeepBut.set_ | apply keep_drewN | apply keep_drew | apply keep_alloc) | exact HK.out)) hk (.inl rfl)); replace HB := Aside0.mk (hb); replace HI0 := Aside0.mk (hi); (try clear hb hk hi)))
        go_roundg k2
        case measure => have := HJ4.out; have := HK2.out; omega
        case rel => exact ⟨(y268), (wrap64 (x6_2 + (wrap64 (1 + t262)))), (wrap64 (x8_2 - 1)), (t272), (t273), fa, fa, H', ⟨by have := HJ4.out; have := HK2.out; omega⟩, ⟨rpR HO270.out⟩, ⟨by repeat (first | (with_reducible first | exact HI0.out | apply IsS136.alloc | apply IsS136.drewN | apply IsS136.drew | apply IsS136.set_1 | apply IsS136.set_2) | exact HI0.out)⟩, ⟨by repeat (first | (with_reducible first | exact HK.out | apply KeepBut.set_ | apply keep_drewN | apply keep_drew | apply keep_alloc) | exact HK.out)⟩, ⟨by repeat (first | (with_reducible first | exact HB.out | apply below_alloc | apply pw_below_drewN | apply below_drew1 | refine below_set ?_ (IsS136.ge HI0.out)) | exact HB.out)⟩⟩
      ·rw [if_neg c18] at H
       exact absurd H (by simp)
     ·rw [if_neg c17] at H
      have c17b0 : decide (0 < x8_2) = false := decide_eq_false c17
      clear c17
      replace H := Option.bind_eq_some_iff.mp H
      obtain ⟨⟨t277, t278, t279⟩, A270, H⟩ := H
      replace H : (if t277 = true then ((spec_l1PickInt.f s0_0 t278 t279 (([(-1), 0, 1099511627776, 1099511627777, 100] : List Int))).bind fun bt283 => (if 0 ≤ (wrap64 ((x5_2.length : Int) - 1)) then (if (wrap64 ((x5_2.length : Int) - 1)) < (x5_2.length : Int) then (spec_l7Times.j2 k2 (x5_2.set ((wrap64 ((x5_2.length : Int) - 1)) : Int).toNat bt283.1) s0_0 bt283.2.1 bt283.2.2) else (none)) else (none))) else (spec_l7Times.j2 k2 x5_2 s0_0 t278 t279)) = some (r1, r2, r3) := H
      have A27 := Aside0.mk A270
      clear A270
      have HC28 := Aside0.mk H
      clear H
      go_upto_if 43 with (first | ((with_reducible refine gC 91 rfl ?_); refine goesZ (some 43) rfl Try.func91 #[.pointer (some ⟨g, 0, none⟩), .int .i64 10] ?_; (with_reducible refine (spec_l1Once.calls g s0_0 x1001_2 x1002_2 10 t277 t278 t279 w0 _ ?side1 ?side2 A27.out).mono ?_); (case side1 => repeat (first | (with_reducible first | exact HI0.out | apply IsS136.alloc | apply IsS136.drewN | apply IsS136.drew | apply IsS136.set_1 | apply IsS136.set_2) | exact HI0.out)); (case side2 => repeat (first | (with_reducible first | exact HB.out | apply below_alloc | apply pw_below_drewN | apply below_drew1 | refine below_set ?_ (IsS136.ge HI0.out)) | exact HB.out)); rintro e w29 ⟨rfl, hi, hb, hk⟩; refine ⟨_, rfl, ?_⟩; replace HO_5 := Aside0.mk (Kd.R_mono (Kd.R_keep (IsS136.apart (show IsS136 w0 _ g s0_0 x1001_2 x1002_2 from by repeat (first | (with_reducible first | exact HI0.out | apply IsS136.alloc | apply IsS136.drewN | apply IsS136.drew | apply IsS136.set_1 | apply IsS136.set_2) | exact HI0.out)) (rpR HO_5.out) (by decide)) hk (fun _ h => h.2)) (fun _ h => h.1)); replace HK := Aside0.mk (KeepBut.trans (by repeat (first | (with_reducible first | exact HK.out | apply KeepBut.set_ | apply keep_drewN | apply keep_drew | apply keep_alloc) | exact HK.out)) hk (.inl rfl)); replace HB := Aside0.mk (hb); replace HI0 := Aside0.mk (hi); (try clear hb hk hi)))
      (try simp only [Act.put, List.setIfInBounds_toArray, List.set_cons_zero, List.set_cons_succ])
      go_cut [] (fun wc => ∃ (kq : Nat) (x5_27 : List Int) (x1001_27 : Int) (x1002_27 : Int), Aside0 (spec_l7Times.j2 kq x5_27 s0_0 x1001_27 x1002_27 = some (r1, r2, r3)) ∧ Aside0 (kq ≤ k2) ∧ Aside0 (Kd.R (Kd.int .i64) 3 wc w.heap.size (fun _ => True) u5 x5_27) ∧ Aside0 (IsS136 w0 wc g s0_0 x1001_27 x1002_27) ∧ Aside0 (KeepBut w wc g none) ∧ Aside0 (Below w0.heap.size w0 wc))
      case first =>
       have H := HC28.out
       clear HC28
       by_cases c30 : t277 = true
       ·subst c30
        replace H := iT H
        obtain ⟨y280, hy280⟩ : ∃ y_ : List Int, y_ = (([(-1), 0, 1099511627776, 1099511627777, 100] : List Int)) := ⟨_, rfl⟩
        replace H : ((spec_l1PickInt.f s0_0 t278 t279 y280).bind fun bt283 => (if 0 ≤ (wrap64 ((x5_2.length : Int) - 1)) then (if (wrap64 ((x5_2.length : Int) - 1)) < (x5_2.length : Int) then (spec_l7Times.j2 k2 (x5_2.set ((wrap64 ((x5_2.length : Int) - 1)) : Int).toNat bt283.1) s0_0 bt283.2.1 bt283.2.2) else (none)) else (none))) = some (r1, r2, r3) := by first | (rw [hy280]; with_reducible exact H) | (have H2_ := (Option.bind_some _ _).symm.trans H; rw [hy280]; with_reducible exact H2_) | (have H2_ := (Option.bind_some _ _).symm.trans H; with_reducible exact H2_) | with_reducible exact H | (rw [hy280]; exact H) | exact H
        have Ny280 := Aside0.mk hy280
        clear hy280
        replace H := Option.bind_eq_some_iff.mp H
        obtain ⟨⟨t283, t284, t285⟩, A310, H⟩ := H
        replace H : (if 0 ≤ (wrap64 ((x5_2.length : Int) - 1)) then (if (wrap64 ((x5_2.length : Int) - 1)) < (x5_2.length : Int) then (spec_l7Times.j2 k2 (x5_2.set ((wrap64 ((x5_2.length : Int) - 1)) : Int).toNat t283) s0_0 t284 t285) else (none)) else (none)) = some (r1, r2, r3) := H
        have A31 := Aside0.mk A310
        clear A310
        obtain ⟨ji32, hji32⟩ : ∃ j_ : Int, (wrap64 ((x5_2.length : Int) - 1)) = j_ := ⟨_, rfl⟩
        replace H : (if 0 ≤ (ji32) then (if (ji32) < (x5_2.length : Int) then (spec_l7Times.j2 k2 (x5_2.set ((ji32) : Int).toNat t283) s0_0 t284 t285) else (none)) else (none)) = some (r1, r2, r3) := by first | (rw [hji32] at H; exact H) | (simp only [hji32] at H ⊢; exact H)
        (try rw [hji32] at A31)
        have hji32w : (IntKind.i64.wrap ((x5_2.length : Int) - 1)) = ji32 := (i64_w _).trans hji32
        by_cases c33 : 0 ≤ (ji32)
        ·rw [if_pos c33] at H
         have c33b0 : decide (0 ≤ (ji32)) = true := decide_eq_true c33
         clear c33
         (first | rw [c33b0] | (simp only [i64_w, i32_w]; rw [c33b0]) | skip)
         by_cases c34 : (ji32) < (x5_2.length : Int)
         ·rw [if_pos c34] at H
          have c34b0 : decide ((ji32) < (x5_2.length : Int)) = true := decide_eq_true c34
          clear c34
          obtain ⟨y286, hy286⟩ : ∃ y_ : List Int, y_ = (x5_2.set ((ji32) : Int).toNat t283) := ⟨_, rfl⟩
          replace H : (spec_l7Times.j2 k2 y286 s0_0 t284 t285) = some (r1, r2, r3) := by first | (rw [hy286]; with_reducible exact H) | (have H2_ := (Option.bind_some _ _).symm.trans H; rw [hy286]; with_reducible exact H2_) | (have H2_ := (Option.bind_some _ _).symm.trans H; with_reducible exact H2_) | with_reducible exact H | (rw [hy286]; exact H) | exact H
          have Ny286 := Aside0.mk hy286
          clear hy286
          have H' := Aside0.mk H
          clear H
          obtain ⟨Ao36, co36, eo36⟩ := Kd.R_slice HO_5.out
          subst eo36
          go_wp2_with (first | ((with_reducible refine gD 49 rfl ?_); refine Kd.R_lit (Kd.int .i64) _ 3 ?hg (N := 49) ?hd (xs := ([(-1), 0, 1099511627776, 1099511627777, 100] : List Int)) (inner := [.int .i64 (-1), .int .i64 0, .int .i64 1099511627776, .int .i64 1099511627777, .int .i64 100]) (ok := fun _ => True) (okp := fun _ => True) ?hr ?hp (fun _ hk => hk) trivial (Below.refl _ _) (Nat.le_refl _) (by simp) ?_; (case hd => rfl); (case hg => rfl); (case hr => first | (go_simp; done) | (go_simp; rfl)); (case hp => exact (Reps.one (show Kd.M (Kd.int .i64) _ _ _ (-1) [.int .i64 (-1)] from rfl) (Reps.one (show Kd.M (Kd.int .i64) _ _ _ 0 [.int .i64 0] from rfl) (Reps.one (show Kd.M (Kd.int .i64) _ _ _ 1099511627776 [.int .i64 1099511627776] from rfl) (Reps.one (show Kd.M (Kd.int .i64) _ _ _ 1099511627777 [.int .i64 1099511627777] from rfl) (Reps.one (show Kd.M (Kd.int .i64) _ _ _ 100 [.int .i64 100] from rfl) (Reps.none _ _))))))); intro v281 w37 ho38 hb hg_ hnew_; clear hg_ hnew_; (first | rw [← Ny280.out] at ho38 | (simp only [Int.reduceToNat] at ho38; rw [← Ny280.out] at ho38)); have HO282 := Aside0.mk (Kd.R_lower (Kd.R_new' ho38 (Kd.R_lt (rpR HO_5.out))) (keep_size (w := w) (g := g) (row := none) (by repeat (first | (with_reducible first | exact HK.out | apply KeepBut.set_ | apply keep_drewN | apply keep_drew | apply keep_alloc) | exact HK.out)))); replace HO_5 := Aside0.mk (Kd.R_elder' (rpR HO_5.out) (Kd.R_base ho38) hb); replace HK := Aside0.mk (KeepBut.trans (by repeat (first | (with_reducible first | exact HK.out | apply KeepBut.set_ | apply keep_drewN | apply keep_drew | apply keep_alloc) | exact HK.out)) (KeepBut.of_below hb g none) (.inl rfl)); replace HB := Aside0.mk (below_step (by repeat (first | (with_reducible first | exact HB.out | apply below_alloc | apply pw_below_drewN | apply below_drew1 | refine below_set ?_ (IsS136.ge HI0.out)) | exact HB.out)) hb); replace HI0 := Aside0.mk (IsS136.below (by repeat (first | (with_reducible first | exact HI0.out | apply IsS136.alloc | apply IsS136.drewN | apply IsS136.drew | apply IsS136.set_1 | apply IsS136.set_2) | exact HI0.out)) hb); clear hb ho38; obtain ⟨Ao39, co39, rfl⟩ := Kd.R_slice HO282.out) | ((with_reducible refine gC 101 rfl ?_); refine goesZ (some 50) rfl Try.func101 #[.pointer (some ⟨g, 0, none⟩), .slice Ao39 y280.length co39] ?_; (with_reducible refine (spec_l1PickInt.calls g s0_0 t278 t279 _ _ y280 t283 t284 t285 w0 _ ?side1 ?side2 ?side3 ?side4 ?side5 A31.out).mono ?_); (case side1 => repeat (first | (with_reducible first | exact HI0.out | apply IsS136.alloc | apply IsS136.drewN | apply IsS136.drew | apply IsS136.set_1 | apply IsS136.set_2) | exact HI0.out)); (case side2 => repeat (first | (with_reducible first | exact HB.out | apply below_alloc | apply pw_below_drewN | apply below_drew1 | refine below_set ?_ (IsS136.ge HI0.out)) | exact HB.out)); (case side3 => exact ca ((Kd.R_reads' HO282.out).2.2)); (case side4 => exact (Kd.R_reads' HO282.out).2.1); (case side5 => exact far_slice (IsS136.own_ne HI0.out HO282.out (by decide))); rintro e w40 ⟨rfl, hi, hb, hk⟩; refine ⟨_, rfl, ?_⟩; replace HO_5 := Aside0.mk (Kd.R_mono (Kd.R_keep (IsS136.apart (show IsS136 w0 _ g s0_0 t278 t279 from by repeat (first | (with_reducible first | exact HI0.out | apply IsS136.alloc | apply IsS136.drewN | apply IsS136.drew | apply IsS136.set_1 | apply IsS136.set_2) | exact HI0.out)) (rpR HO_5.out) (by decide)) hk (fun _ h => h.2)) (fun _ h => h.1)); replace HO282 := Aside0.mk (Kd.R_mono (Kd.R_keep (IsS136.apart (show IsS136 w0 _ g s0_0 t278 t279 from by repeat (first | (with_reducible first | exact HI0.out | apply IsS136.alloc | apply IsS136.drewN | apply IsS136.drew | apply IsS136.set_1 | apply IsS136.set_2) | exact HI0.out)) (rpR HO282.out) (by decide)) hk (fun _ h => h.2)) (fun _ h => h.1)); replace HK := Aside0.mk (KeepBut.trans (by repeat (first | (with_reducible first | exact HK.out | apply KeepBut.set_ | apply keep_drewN | apply keep_drew | apply keep_alloc) | exact HK.out)) hk (.inl rfl)); replace HB := Aside0.mk (hb); replace HI0 := Aside0.mk (hi); (try clear hb hk hi); have p35 : 0 ≤ ((ji32) : Int) := of_decide_eq_true am; have q35 : ((ji32) : Int) < ((x5_2.length : Int) : Int) := of_decide_eq_true am; obtain ⟨go35, co35, eo35, gb35, gl35, cl35, HG35⟩ := Kd.R_form HO_5.out (by omega); (first | cases eo35 | (injection eo35 with ea_ en_ ec_; (first | subst ea_ | (injection ea_ with ea_; subst ea_)); subst ec_; clear en_)); have GB35 := Aside0.mk gb35; have GG35 := Aside0.mk HG35; clear gb35 gl35 HG35; obtain ⟨hx35_0, hf35_0⟩ := Kd.R_celln 0 HO_5.out ((ji32) : Int) p35 q35; replace p35 := eq_true p35; replace q35 := eq_true q35; have n_ := Aside0.mk (Kd.R_mono (ok' := (fun k_ => some k_ ≠ (.slice Ao39 y280.length co39 : Value).ownBlock)) HO_5.out (fun k_ hk => hk.2)); clear HO_5; have HO_5 := n_; clear n_; obtain ⟨hy41_, hz41_⟩ := Kd.R_celln 0 HO_5.out ((ji32) : Int) (of_decide_eq_true am) (of_decide_eq_true am); have HP41 := Kd.R_putg HO_5.out ((ji32) : Int) t283) | ((with_reducible refine gate_store (t := 3) (p := 51) rfl ?_); refine store_event (t := 3) (p := 51) (v := ?vo_w42) (w1 := (w40.setCell ⟨go35, ((ji32) : Int).toNat, none⟩ (.int .i64 t283))) ?hg ?ho ?hn ?hr ?_; (case ho => rfl); (case hg => rfl); (case hn => rfl); (case hr => first | (go_simp; done) | (go_simp; rfl)); intro w42 hw; have hg : w40.grownBy w42 (some go35) := (by rw [hw]; exact HP41.2); have hp_ : Kd.R (Kd.int .i64) 3 w42 w.heap.size (fun k_ => some k_ ≠ (.slice Ao39 y280.length co39 : Value).ownBlock) (.slice (some ⟨go35, 0, none⟩) x5_2.length co36) y286 := (by rw [hw, Ny286.out]; exact HP41.1); clear HP41; replace HI0 := Aside0.mk (IsS136.grown (by repeat (first | (with_reducible first | exact HI0.out | apply IsS136.alloc | apply IsS136.drewN | apply IsS136.drew | apply IsS136.set_1 | apply IsS136.set_2) | exact HI0.out)) hg (IsS136.own_ne HI0.out HO_5.out (by decide))); replace HO282 := Aside0.mk (Kd.R_after (v := (.slice (some ⟨go35, 0, none⟩) x5_2.length co36)) (v1 := (.slice (some ⟨go35, 0, none⟩) x5_2.length co36)) (ok := (fun _ => True)) (rpR HO282.out) hg (.inl rfl)); replace HB := Aside0.mk ((by rw [hw]; exact below_set (HB.out) (Nat.le_trans HL.out GB35.out) : Below w0.heap.size w0 w42)); replace HK := Aside0.mk (KeepBut.trans (by repeat (first | (with_reducible first | exact HK.out | apply KeepBut.set_ | apply keep_drewN | apply keep_drew | apply keep_alloc) | exact HK.out)) (KeepBut.of_grown hg g) (Kd.R_base2 HO_5.out)); replace HO_5 := Aside0.mk (hp_); clear hg hw hp_))
          go_meet
          case rel => exact ⟨_, (y286), (t284), (t285), H', ⟨by have := HJ4.out; have := HK2.out; first | omega | exact Nat.le_refl _⟩, ⟨rpR (Kd.R_mono HO_5.out (fun _ hk => trivial))⟩, ⟨by repeat (first | (with_reducible first | exact HI0.out | apply IsS136.alloc | apply IsS136.drewN | apply IsS136.drew | apply IsS136.set_1 | apply IsS136.set_2) | exact HI0.out)⟩, ⟨by repeat (first | (with_reducible first | exact HK.out | apply KeepBut.set_ | apply keep_drewN | apply keep_drew | apply keep_alloc) | exact HK.out)⟩, ⟨by repeat (first | (with_reducible first | exact HB.out | apply below_alloc | apply pw_below_drewN | apply below_drew1 | refine below_set ?_ (IsS136.ge HI0.out)) | exact HB.out)⟩⟩
         ·rw [if_neg c34] at H
          exact absurd H (by simp)
        ·rw [if_neg c33] at H
         exact absurd H (by simp)
       ·replace c30 := Bool.eq_false_iff.mpr c30
        subst c30
        replace H := iF H
        have H' := Aside0.mk H
        clear H
        go_wp2
        go_meet
        case rel => exact ⟨_, (x5_2), (t278), (t279), H', ⟨by have := HJ4.out; have := HK2.out; first | omega | exact Nat.le_refl _⟩, ⟨rpR HO_5.out⟩, ⟨by repeat (first | (with_reducible first | exact HI0.out | apply IsS136.alloc | apply IsS136.drewN | apply IsS136.drew | apply IsS136.set_1 | apply IsS136.set_2) | exact HI0.out)⟩, ⟨by repeat (first | (with_reducible first | exact HK.out | apply KeepBut.set_ | apply keep_drewN | apply keep_drew | apply keep_alloc) | exact HK.out)⟩, ⟨by repeat (first | (with_reducible first | exact HB.out | apply below_alloc | apply pw_below_drewN | apply below_drew1 | refine below_set ?_ (IsS136.ge HI0.out)) | exact HB.out)⟩⟩
      case rest =>
       clear HC28
       try clear c1
       try clear c2
       try clear p2
       try clear c3
       try clear p3
       try clear q3
       try clear hx3
       try clear hf3
       try clear p6
       try clear c9
       try clear c10
       try clear c17
       try clear c17b0
       try clear c18
       try clear c20
       try clear c30
       try clear c33
       try clear c33b0
       try clear c34
       try clear c34b0
       try clear p35
       try clear q35
       try clear hx35
       try clear hf35
       try clear hx35_0
       try clear p2
       try clear p35
       try clear p6
       try clear q35
       obtain ⟨kq, x5_27, x1001_27, x1002_27, HA, HJ27, HO_5, HI0, HK, HB⟩ := hcut
       cases kq with
       | zero => exact absurd HA.out (by simp [spec_l7Times.j2])
       | succ kj27 =>
        have H := HA.out
        clear HA
        simp only [spec_l7Times.j2] at H
        replace H := Option.bind_eq_some_iff.mp H
        obtain ⟨⟨t287, t288, t289⟩, A430, H⟩ := H
        replace H : (if t287 = true then ((spec_l1Below.f s0_0 t288 t289 2).bind fun bt290 => (spec_l7Times.l1 kj27 (([] : List Int)) (wrap64 (60 + bt290.1)) s0_0 bt290.2.1 bt290.2.2)) else (some (x5_27, t288, t289))) = some (r1, r2, r3) := H
        have A43 := Aside0.mk A430
        clear A430
        by_cases c44 : t287 = true
        ·subst c44
         replace H := iT H
         replace H := Option.bind_eq_some_iff.mp H
         obtain ⟨⟨t290, t291, t292⟩, A450, H⟩ := H
         replace H : (spec_l7Times.l1 kj27 (([] : List Int)) (wrap64 (60 + t290)) s0_0 t291 t292) = some (r1, r2, r3) := H
         have A45 := Aside0.mk A450
         clear A450
         obtain ⟨y293, hy293⟩ : ∃ y_ : List Int, y_ = (([] : List Int)) := ⟨_, rfl⟩
         replace H : (spec_l7Times.l1 kj27 y293 (wrap64 (60 + t290)) s0_0 t291 t292) = some (r1, r2, r3) := by first | (rw [hy293]; with_reducible exact H) | (have H2_ := (Option.bind_some _ _).symm.trans H; rw [hy293]; with_reducible exact H2_) | (have H2_ := (Option.bind_some _ _).symm.trans H; with_reducible exact H2_) | with_reducible exact H | (rw [hy293]; exact H) | exact H
         have Ny293 := Aside0.mk hy293
         clear hy293
         have H' := Aside0.mk H
         clear H
         go_wp2_with (first | ((with_reducible refine gC 91 rfl ?_); refine goesZ (some 53) rfl Try.func91 #[.pointer (some ⟨g, 0, none⟩), .int .i64 40] ?_; (with_reducible refine (spec_l1Once.calls g s0_0 x1001_27 x1002_27 40 true t288 t289 w0 _ ?side1 ?side2 A43.out).mono ?_); (case side1 => repeat (first | (with_reducible first | exact HI0.out | apply IsS136.alloc | apply IsS136.drewN | apply IsS136.drew | apply IsS136.set_1 | apply IsS136.set_2) | exact HI0.out)); (case side2 => repeat (first | (with_reducible first | exact HB.out | apply below_alloc | apply pw_below_drewN | apply below_drew1 | refine below_set ?_ (IsS136.ge HI0.out)) | exact HB.out)); rintro e w46 ⟨rfl, hi, hb, hk⟩; refine ⟨_, rfl, ?_⟩; replace HO_5 := Aside0.mk (Kd.R_mono (Kd.R_keep (IsS136.apart (show IsS136 w0 _ g s0_0 x1001_27 x1002_27 from by repeat (first | (with_reducible first | exact HI0.out | apply IsS136.alloc | apply IsS136.drewN | apply IsS136.drew | apply IsS136.set_1 | apply IsS136.set_2) | exact HI0.out)) (rpR HO_5.out) (by decide)) hk (fun _ h => h.2)) (fun _ h => h.1)); replace HK := Aside0.mk (KeepBut.trans (by repeat (first | (with_reducible first | exact HK.out | apply KeepBut.set_ | apply keep_drewN | apply keep_drew | apply keep_alloc) | exact HK.out)) hk (.inl rfl)); replace HB := Aside0.mk (hb); replace HI0 := Aside0.mk (hi); (try clear hb hk hi)) | ((with_reducible refine gC 102 rfl ?_); refine goesZ (some 55) rfl Try.func102 #[.pointer (some ⟨g, 0, none⟩), .int .i64 2] ?_; (with_reducible refine (spec_l1Below.calls g s0_0 t288 t289 2 t290 t291 t292 w0 _ ?side1 ?side2 A45.out).mono ?_); (case side1 => repeat (first | (with_reducible first | exact HI0.out | apply IsS136.alloc | apply IsS136.drewN | apply IsS136.drew | apply IsS136.set_1 | apply IsS136.set_2) | exact HI0.out)); (case side2 => repeat (first | (with_reducible first | exact HB.out | apply below_alloc | apply pw_below_drewN | apply below_drew1 | refine below_set ?_ (IsS136.ge HI0.out)) | exact HB.out)); rintro e w47 ⟨rfl, hi, hb, hk⟩; refine ⟨_, rfl, ?_⟩; replace HO_5 := Aside0.mk (Kd.R_mono (Kd.R_keep (IsS136.apart (show IsS136 w0 _ g s0_0 t288 t289 from by repeat (first | (with_reducible first | exact HI0.out | apply IsS136.alloc | apply IsS136.drewN | apply IsS136.drew | apply IsS136.set_1 | apply IsS136.set_2) | exact HI0.out)) (rpR HO_5.out) (by decide)) hk (fun _ h => h.2)) (fun _ h => h.1)); replace HK := Aside0.mk (KeepBut.trans (by repeat (first | (with_reducible first | exact HK.out | apply KeepBut.set_ | apply keep_drewN | apply keep_drew | apply keep_alloc) | exact HK.out)) hk (.inl rfl)); replace HB := Aside0.mk (hb); replace HI0 := Aside0.mk (hi); (try clear hb hk hi)) | ((with_reducible refine gD 57 rfl ?_); refine Kd.R_lit (Kd.int .i64) _ 3 ?hg (N := 57) ?hd (xs := ([] : List Int)) (inner := []) (ok := fun _ => True) (okp := fun _ => True) ?hr ?hp (fun _ hk => hk) trivial (Below.refl _ _) (Nat.le_refl _) (by simp) ?_; (case hd => rfl); (case hg => rfl); (case hr => first | (go_simp; done) | (go_simp; rfl)); (case hp => exact (Reps.none _ _)); intro v294 w48 ho49 hb hg_ hnew_; clear hg_ hnew_; (first | rw [← Ny293.out] at ho49 | (simp only [Int.reduceToNat] at ho49; rw [← Ny293.out] at ho49)); have HO295 := Aside0.mk (Kd.R_lower (Kd.R_new' ho49 (Kd.R_lt (rpR HO_5.out))) (keep_size (w := w) (g := g) (row := none) (by repeat (first | (with_reducible first | exact HK.out | apply KeepBut.set_ | apply keep_drewN | apply keep_drew | apply keep_alloc) | exact HK.out)))); replace HO_5 := Aside0.mk (Kd.R_elder' (rpR HO_5.out) (Kd.R_base ho49) hb); replace HK := Aside0.mk (KeepBut.trans (by repeat (first | (with_reducible first | exact HK.out | apply KeepBut.set_ | apply keep_drewN | apply keep_drew | apply keep_alloc) | exact HK.out)) (KeepBut.of_below hb g none) (.inl rfl)); replace HB := Aside0.mk (below_step (by repeat (first | (with_reducible first | exact HB.out | apply below_alloc | apply pw_below_drewN | apply below_drew1 | refine below_set ?_ (IsS136.ge HI0.out)) | exact HB.out)) hb); replace HI0 := Aside0.mk (IsS136.below (by repeat (first | (with_reducible first | exact HI0.out | apply IsS136.alloc | apply IsS136.drewN | apply IsS136.drew | apply IsS136.set_1 | apply IsS136.set_2) | exact HI0.out)) hb); clear hb ho49))
         go_loopg [5] kj27 (fun kq v5 w' => ∃ (x5_4 : List Int), Aside0 (spec_l7Times.l1 kq x5_4 (wrap64 (60 + t290)) s0_0 t291 t292 = some (r1, r2, r3)) ∧ Aside0 (kq ≤ kj27) ∧ Aside0 (Kd.R (Kd.int .i64) 3 w' w.heap.size (fun _ => True) v5 x5_4) ∧ Aside0 (IsS136 w0 w' g s0_0 t291 t292) ∧ Aside0 (KeepBut w w' g none) ∧ Aside0 (Below w0.heap.size w0 w'))
         case atStart => exact ⟨(y293), H', ⟨Nat.le_refl _⟩, ⟨rpR (Kd.R_mono HO295.out (fun _ hk => trivial))⟩, ⟨by repeat (first | (with_reducible first | exact HI0.out | apply IsS136.alloc | apply IsS136.drewN | apply IsS136.drew | apply IsS136.set_1 | apply IsS136.set_2) | exact HI0.out)⟩, ⟨by repeat (first | (with_reducible first | exact HK.out | apply KeepBut.set_ | apply keep_drewN | apply keep_drew | apply keep_alloc) | exact HK.out)⟩, ⟨by repeat (first | (with_reducible first | exact HB.out | apply below_alloc | apply pw_below_drewN | apply below_drew1 | refine below_set ?_ (IsS136.ge HI0.out)) | exact HB.out)⟩⟩
         case round =>
          clear H'
          try clear c1
          try clear c2
          try clear p2
          try clear c3
          try clear p3
          try clear q3
          try clear hx3
          try clear hf3
          try clear c4
          try clear p6
          try clear c9
          try clear c10
          try clear c17
          try clear c17b0
          try clear c18
          try clear c20
          try clear c30
          try clear c33
          try clear c33b0
          try clear c34
          try clear c34b0
          try clear p35
          try clear q35
          try clear hx35
          try clear hf35
          try clear c44
          try clear hx35_0
          try clear p2
          try clear p3
          try clear p35
          try clear p6
          try clear q3
          try clear q35
          obtain ⟨x5_4, HA, HK4, HO_5, HI0, HK, HB⟩ := hrel
          cases gk with
          | zero => exact absurd HA.out (by simp [spec_l7Times.l1])
          | succ k4 =>
           have H := HA.out
           clear HA
           simp only [spec_l7Times.l1] at H
           by_cases c50 : (x5_4.length : Int) < (wrap64 (60 + t290))
           ·rw [if_pos c50] at H
            have c50b0 : decide ((x5_4.length : Int) < (wrap64 (60 + t290))) = true := decide_eq_true c50
            clear c50
            by_cases c51 : x5_4.length < 17592186044416
            ·rw [if_pos c51] at H
             have LMc51 := Aside0.mk c51
             clear c51
             obtain ⟨y296, hy296⟩ : ∃ y_ : List Int, y_ = (x5_4 ++ [wrap64 (3 * (x5_4.length : Int))]) := ⟨_, rfl⟩
             replace H : (spec_l7Times.l1 k4 y296 (wrap64 (60 + t290)) s0_0 t291 t292) = some (r1, r2, r3) := by first | (rw [hy296]; with_reducible exact H) | (have H2_ := (Option.bind_some _ _).symm.trans H; rw [hy296]; with_reducible exact H2_) | (have H2_ := (Option.bind_some _ _).symm.trans H; with_reducible exact H2_) | with_reducible exact H | (rw [hy296]; exact H) | exact H
             have Ny296 := Aside0.mk hy296
             clear hy296
             have H' := Aside0.mk H
             clear H
             obtain ⟨Ao52, co52, eo52⟩ := Kd.R_slice HO_5.out
             subst eo52
             go_wp2_with (first | ((with_reducible refine gate_builtin (b := .append) (xs := #[.tmp 62, .tmp 66]) rfl ?_); at_builtin; refine Kd.R_append (Kd.int .i64) w.heap.size rfl (.tmp 62) (.tmp 66) 29 3 (.int .i64 0) 8 rfl Try.underlying29 info3 rfl (by decide) (by omega) (.slice Ao52 x5_4.length co52) x5_4 (wrap64 (3 * (x5_4.length : Int))) [.int .i64 (wrap64 (3 * (x5_4.length : Int)))] (fun _ => True) (fun _ => False) rfl rfl ?aP (fun _ hk => hk.elim) ?aF ?aO (Below.refl _ _) ?aS ?aL ?_; (case aP => exact rfl); (case aF => exact (fun _ _ => trivial)); (case aO => exact (rpR HO_5.out)); (case aS => exact (keep_size (w := w) (g := g) (row := none) (by repeat (first | (with_reducible first | exact HK.out | apply KeepBut.set_ | apply keep_drewN | apply keep_drew | apply keep_alloc) | exact HK.out)))); (case aL => have := LMc51.out; omega); intro v297 w53 ho hb hg hat; rw [← Ny296.out] at ho; replace HB := Aside0.mk (below_weaken (by repeat (first | (with_reducible first | exact HB.out | apply below_alloc | apply pw_below_drewN | apply below_drew1 | refine below_set ?_ (IsS136.ge HI0.out)) | exact HB.out)) HL.out hb); replace HI0 := Aside0.mk (IsS136.grown (by repeat (first | (with_reducible first | exact HI0.out | apply IsS136.alloc | apply IsS136.drewN | apply IsS136.drew | apply IsS136.set_1 | apply IsS136.set_2) | exact HI0.out)) hg (IsS136.own_ne HI0.out HO_5.out (by decide))); replace HK := Aside0.mk (KeepBut.trans (by repeat (first | (with_reducible first | exact HK.out | apply KeepBut.set_ | apply keep_drewN | apply keep_drew | apply keep_alloc) | exact HK.out)) (KeepBut.of_grown hg g) (Kd.R_base2 HO_5.out)); have HO298 := Aside0.mk (ho); clear HO_5; clear ho hb hg hat))
             go_roundg k4
             case measure => have := HJ4.out; have := HK2.out; have := HJ27.out; have := HK4.out; omega
             case rel => exact ⟨(y296), H', ⟨by have := HJ4.out; have := HK2.out; have := HJ27.out; have := HK4.out; omega⟩, ⟨rpR HO298.out⟩, ⟨by repeat (first | (with_reducible first | exact HI0.out | apply IsS136.alloc | apply IsS136.drewN | apply IsS136.drew | apply IsS136.set_1 | apply IsS136.set_2) | exact HI0.out)⟩, ⟨by repeat (first | (with_reducible first | exact HK.out | apply KeepBut.set_ | apply keep_drewN | apply keep_drew | apply keep_alloc) | exact HK.out)⟩, ⟨by repeat (first | (with_reducible first | exact HB.out | apply below_alloc | apply pw_below_drewN | apply below_drew1 | refine below_set ?_ (IsS136.ge HI0.out)) | exact HB.out)⟩⟩
            ·rw [if_neg c51] at H
             exact absurd H (by simp)
           ·rw [if_neg c50] at H
            have c50b0 : decide ((x5_4.length : Int) < (wrap64 (60 + t290))) = false := decide_eq_false c50
            clear c50
            simp only [Option.some.injEq, Prod.mk.injEq] at H
            obtain ⟨rfl, rfl, rfl⟩ := H
            obtain ⟨Ao54, co54, eo54⟩ := Kd.R_slice HO_5.out
            subst eo54
            go_wp2
            go_ret
            exact ⟨_, fe, rpR HO_5.out, by repeat (first | (with_reducible first | exact HI0.out | apply IsS136.alloc | apply IsS136.drewN | apply IsS136.drew | apply IsS136.set_1 | apply IsS136.set_2) | exact HI0.out), by repeat (first | (with_reducible first | exact HB.out | apply below_alloc | apply pw_below_drewN | apply below_drew1 | refine below_set ?_ (IsS136.ge HI0.out)) | exact HB.out), by repeat (first | (with_reducible first | exact HK.out | apply KeepBut.set_ | apply keep_drewN | apply keep_drew | apply keep_alloc) | exact HK.out)⟩
        ·replace c44 := Bool.eq_false_iff.mpr c44
         subst c44
         replace H := iF H
         simp only [Option.some.injEq, Prod.mk.injEq] at H
         obtain ⟨rfl, rfl, rfl⟩ := H
         go_wp2_with (first | ((with_reducible refine gC 91 rfl ?_); refine goesZ (some 53) rfl Try.func91 #[.pointer (some ⟨g, 0, none⟩), .int .i64 40] ?_; (with_reducible refine (spec_l1Once.calls g s0_0 x1001_27 x1002_27 40 false t288 t289 w0 _ ?side1 ?side2 A43.out).mono ?_); (case side1 => repeat (first | (with_reducible first | exact HI0.out | apply IsS136.alloc | apply IsS136.drewN | apply IsS136.drew | apply IsS136.set_1 | apply IsS136.set_2) | exact HI0.out)); (case side2 => repeat (first | (with_reducible first | exact HB.out | apply below_alloc | apply pw_below_drewN | apply below_drew1 | refine below_set ?_ (IsS136.ge HI0.out)) | exact HB.out)); rintro e w55 ⟨rfl, hi, hb, hk⟩; refine ⟨_, rfl, ?_⟩; replace HO_5 := Aside0.mk (Kd.R_mono (Kd.R_keep (IsS136.apart (show IsS136 w0 _ g s0_0 x1001_27 x1002_27 from by repeat (first | (with_reducible first | exact HI0.out | apply IsS136.alloc | apply IsS136.drewN | apply IsS136.drew | apply IsS136.set_1 | apply IsS136.set_2) | exact HI0.out)) (rpR HO_5.out) (by decide)) hk (fun _ h => h.2)) (fun _ h => h.1)); replace HK := Aside0.mk (KeepBut.trans (by repeat (first | (with_reducible first | exact HK.out | apply KeepBut.set_ | apply keep_drewN | apply keep_drew | apply keep_alloc) | exact HK.out)) hk (.inl rfl)); replace HB := Aside0.mk (hb); replace HI0 := Aside0.mk (hi); (try clear hb hk hi)))
         go_ret
         exact ⟨_, fe, rpR HO_5.out, by repeat (first | (with_reducible first | exact HI0.out | apply IsS136.alloc | apply IsS136.drewN | apply IsS136.drew | apply IsS136.set_1 | apply IsS136.set_2) | exact HI0.out), by repeat (first | (with_reducible first | exact HB.out | apply below_alloc | apply pw_below_drewN | apply below_drew1 | refine below_set ?_ (IsS136.ge HI0.out)) | exact HB.out), by repeat (first | (with_reducible first | exact HK.out | apply KeepBut.set_ | apply keep_drewN | apply keep_drew | apply keep_alloc) | exact HK.out)⟩

/-! ### spec_l1Size: function 99 -/
def spec_l1Size.f (l0 : List Int) (a1 : Int) : Option (Int) := if (wrap64 (2 + (wrap64 ((l0.length : Int) / 20)))) > a1 then (some a1) else (some (wrap64 (2 + (wrap64 ((l0.length : Int) / 20)))))
set_option maxHeartbeats 8000000 in
set_option maxRecDepth 100000 in
theorem spec_l1Size.calls (A0 : Option Addr) (c0 : Nat) (l0 : List Int) (a1 : Int) (r : Int) (w : World) (hr0 : Kd.C (Kd.int .u8) w A0 l0.length l0) (hc0 : l0.length ≤ c0) (h : spec_l1Size.f l0 a1 = some r) :
 Calls Try.prog 99 #[.slice A0 l0.length c0, .int .i64 a1] w fun e w' => e = .returned (.int .i64 r) ∧ Drawn0 w w' := by
 have HR0 := Aside0.mk hr0
 have HC0 := Aside0.mk hc0
 clear hr0 hc0
 have H : (if (wrap64 (2 + (wrap64 ((l0.length : Int) / 20)))) > a1 then (some a1) else (some (wrap64 (2 + (wrap64 ((l0.length : Int) / 20)))))) = some r := h
 clear h
 by_cases c3 : (wrap64 (2 + (wrap64 ((l0.length : Int) / 20)))) > a1
 ·rw [if_pos c3] at H
  have c3b0 : decide (a1 < (wrap64 (2 + (wrap64 ((l0.length : Int) / 20))))) = true := decide_eq_true c3
  clear c3
  obtain rfl := Option.some.inj H
  go_enter Try.func99, Try.ntmps99
  go_wp2
  go_ret
  exact ⟨fa, fd⟩
 ·rw [if_neg c3] at H
  have c3b0 : decide (a1 < (wrap64 (2 + (wrap64 ((l0.length : Int) / 20))))) = false := decide_eq_false c3
  clear c3
  obtain rfl := Option.some.inj H
  go_enter Try.func99, Try.ntmps99
  go_wp2
  go_ret
  exact ⟨fa, fd⟩

/-! ### spec_DrawShowTimes: function 48 -/
def spec_DrawShowTimes.f (k : Nat) (l0 : List Int) : Option (List Int) := (spec_l1New.f k l0).bind fun bt299 => ((spec_l1Size.f l0 20).bind fun t303 => ((spec_l7Times.f k bt299.1 bt299.2.1 bt299.2.2 t303).bind fun bt304 => (some bt304.1)))
theorem spec_DrawShowTimes.mono : ∀ a0 k, LeO (spec_DrawShowTimes.f k a0) (spec_DrawShowTimes.f (k + 1) a0) := by
 intro a0 k
 unfold spec_DrawShowTimes.f
 repeat' first
  | (with_reducible exact spec_l1New.mono _ _)
  | (with_reducible exact spec_l7Times.mono _ _ _ _ _)
  | (with_reducible exact LeO.refl _)
  | (with_reducible exact LeO.none _)
  | (with_reducible refine LeO.ite ?_ ?_)
  | (with_reducible refine LeO.bind ?_ (fun _ => ?_))
  | exact spec_l1New.mono _ _
  | exact spec_l7Times.mono _ _ _ _ _
  | exact LeO.none _
  | refine LeO.ite ?_ ?_
  | refine LeO.bind ?_ (fun _ => ?_)
set_option maxHeartbeats 8000000 in
set_option maxRecDepth 100000 in
theorem spec_DrawShowTimes.calls (k : Nat) (A0 : Option Addr) (c0 : Nat) (l0 : List Int) (r : List Int) (w : World) (hr0 : Kd.C (Kd.int .u8) w A0 l0.length l0) (hc0 : l0.length ≤ c0) (h : spec_DrawShowTimes.f k l0 = some r) :
 Calls Try.prog 48 #[.slice A0 l0.length c0] w fun e w' => ∃ v0_ : Value, e = .returned (v0_) ∧ Kd.R (Kd.int .i64) 3 w' w.heap.size (fun _ => True) v0_ r ∧ Below w.heap.size w w' := by
 have HR0 := Aside0.mk hr0
 have HC0 := Aside0.mk hc0
 clear hr0 hc0
 have HB := Aside0.mk (Below.refl w.heap.size w)
 have H : ((spec_l1New.f k l0).bind fun bt299 => ((spec_l1Size.f l0 20).bind fun t303 => ((spec_l7Times.f k bt299.1 bt299.2.1 bt299.2.2 t303).bind fun bt304 => (some bt304.1)))) = some r := h
 clear h
 replace H := Option.bind_eq_some_iff.mp H
 obtain ⟨⟨t299, t300, t301⟩, A20, H⟩ := H
 replace H : ((spec_l1Size.f l0 20).bind fun t303 => ((spec_l7Times.f k t299 t300 t301 t303).bind fun bt304 => (some bt304.1))) = some r := H
 have A2 := Aside0.mk A20
 clear A20
 obtain ⟨t303, A3, H⟩ := bd H
 replace H := Option.bind_eq_some_iff.mp H
 obtain ⟨⟨t304, t307, t308⟩, A40, H⟩ := H
 replace H : (some t304) = some r := H
 have A4 := Aside0.mk A40
 clear A40
 obtain rfl := Option.some.inj H
 go_enter Try.func48, Try.ntmps48
 go_wp2_with (first | ((with_reducible refine gC 87 rfl ?_); refine goesZ (some 5) rfl Try.func87 #[.slice A0 l0.length c0] ?_; (with_reducible refine (spec_l1New.calls k _ _ l0 t299 t300 t301 w _ ?side1 ?side2 ?side3 A2.out).mono ?_); (case side1 => repeat (first | (with_reducible first | exact HB.out | apply below_alloc | apply pw_below_drewN | apply below_drew1) | exact HB.out)); (case side2 => exact HR0.out); (case side3 => exact HC0.out); rintro e w5 ⟨g302, rfl, hi, hb, hb2⟩; refine ⟨_, rfl, ?_⟩; replace HB := Aside0.mk (hb); have HI302 := Aside0.mk (hi); (try clear hb hb2 hi)) | ((with_reducible refine gC 99 rfl ?_); refine goesZ (some 8) rfl Try.func99 #[.slice A0 l0.length c0, .int .i64 20] ?_; (with_reducible refine (spec_l1Size.calls _ _ l0 20 t303 _ ?side1 ?side2 A3.out).mono ?_); (case side1 => exact ca (Kd.C_below HR0.out HB.out)); (case side2 => exact HC0.out); rintro e w' ⟨rfl, ⟨nd, rfl⟩⟩; refine ⟨_, rfl, ?_⟩) | ((with_reducible refine gC 98 rfl ?_); refine goesZ (some 9) rfl Try.func98 #[.pointer (some ⟨g302, 0, none⟩), .int .i64 t303] ?_; (with_reducible refine (spec_l7Times.calls k g302 t299 t300 t301 t303 t304 t307 t308 w _ ?side1 ?side2 A4.out).mono ?_); (case side1 => repeat (first | (with_reducible first | exact HI302.out | apply IsS136.alloc | apply IsS136.drewN | apply IsS136.drew | apply IsS136.set_1 | apply IsS136.set_2) | exact HI302.out)); (case side2 => repeat (first | (with_reducible first | exact HB.out | apply below_alloc | apply pw_below_drewN | apply below_drew1 | refine below_set ?_ (IsS136.ge HI302.out)) | exact HB.out)); rintro e w6 ⟨v305, rfl, ho0, hi, hb, hk⟩; refine ⟨_, rfl, ?_⟩; have HO306 := Aside0.mk (Kd.R_lower ho0 (below_size (by repeat (first | (with_reducible first | exact HB.out | apply below_alloc | apply pw_below_drewN | apply below_drew1 | refine below_set ?_ (IsS136.ge HI302.out)) | exact HB.out)))); replace HB := Aside0.mk (hb); replace HI302 := Aside0.mk (hi); (try clear hb hk hi ho0)))
 go_ret
 exact ⟨_, fe, rpR HO306.out, by repeat (first | (with_reducible first | exact HB.out | apply below_alloc | apply pw_below_drewN | apply below_drew1 | refine below_set ?_ (IsS136.ge HI302.out)) | exact HB.out)⟩

/-! ### laws_sameInts: function 49 -/
def laws_sameInts.l0 : Nat → List Int → List Int → Int → Option (Bool)
 | 0, _, _, _ => none
 | k + 1, x0, x1, x5 => if x5 < (x0.length : Int) then (if 0 ≤ x5 then (if x5 < (x1.length : Int) then (if (rd x0 x5) = (rd x1 x5) then (laws_sameInts.l0 k x0 x1 (wrap64 (x5 + 1))) else (some false)) else (none)) else (none)) else (some true)
def laws_sameInts.f (k : Nat) (l0 : List Int) (l1 : List Int) : Option (Bool) := if (l0.length : Int) = (l1.length : Int) then (laws_sameInts.l0 k l0 l1 0) else (some false)
theorem laws_sameInts.mono_l : ∀ k, (∀ y0 y1 y2, LeO (laws_sameInts.l0 k y0 y1 y2) (laws_sameInts.l0 (k + 1) y0 y1 y2))
 | 0 => fun _ _ _ r h => by simp [laws_sameInts.l0] at h
 | k + 1 => by
  have ih0 := laws_sameInts.mono_l k
  ·intro y0 y1 y2
   unfold laws_sameInts.l0
   repeat' first
   | (with_reducible exact ih0 _ _ _)
   | (with_reducible exact LeO.refl _)
   | (with_reducible exact LeO.none _)
   | (with_reducible refine LeO.ite ?_ ?_)
   | (with_reducible refine LeO.bind ?_ (fun _ => ?_))
   | exact ih0 _ _ _
   | exact LeO.none _
   | refine LeO.ite ?_ ?_
   | refine LeO.bind ?_ (fun _ => ?_)
theorem laws_sameInts.mono : ∀ a0 a1 k, LeO (laws_sameInts.f k a0 a1) (laws_sameInts.f (k + 1) a0 a1) := by
 intro a0 a1 k
 have ih0 := laws_sameInts.mono_l k
 unfold laws_sameInts.f
 repeat' first
  | (with_reducible exact ih0 _ _ _)
  | (with_reducible exact LeO.refl _)
  | (with_reducible exact LeO.none _)
  | (with_reducible refine LeO.ite ?_ ?_)
  | (with_reducible refine LeO.bind ?_ (fun _ => ?_))
  | exact ih0 _ _ _
  | exact LeO.none _
  | refine LeO.ite ?_ ?_
  | refine LeO.bind ?_ (fun _ => ?_)
set_option maxHeartbeats 8000000 in
set_option maxRecDepth 100000 in
theorem laws_sameInts.calls (k : Nat) (A0 : Option Addr) (c0 : Nat) (l0 : List Int) (A1 : Option Addr) (c1 : Nat) (l1 : List Int) (r : Bool) (w : World) (hr0 : Kd.C (Kd.int .i64) w A0 l0.length l0) (hc0 : l0.length ≤ c0) (hr1 : Kd.C (Kd.int .i64) w A1 l1.length l1) (hc1 : l1.length ≤ c1) (h : laws_sameInts.f k l0 l1 = some r) :
 Calls Try.prog 49 #[.slice A0 l0.length c0, .slice A1 l1.length c1] w fun e w' => e = .returned (.bool r) ∧ Drawn0 w w' := by
 have HR0 := Aside0.mk hr0
 have HC0 := Aside0.mk hc0
 clear hr0 hc0
 have HR1 := Aside0.mk hr1
 have HC1 := Aside0.mk hc1
 clear hr1 hc1
 have H : (if (l0.length : Int) = (l1.length : Int) then (laws_sameInts.l0 k l0 l1 0) else (some false)) = some r := h
 clear h
 by_cases c3 : (l0.length : Int) = (l1.length : Int)
 ·rw [if_pos c3] at H
  have c3b0 : ((l0.length : Int) == (l1.length : Int)) = true := beq_iff_eq.mpr c3
  have c3b1 : ((l0.length : Int) != (l1.length : Int)) = false := bne_eq_false_iff_eq.mpr c3
  have c3b2 : (l0.length == l1.length) = true := by first | simpa using c3 | (simp at c3 ⊢; omega)
  clear c3
  have H' := Aside0.mk H
  clear H
  go_enter Try.func49, Try.ntmps49
  go_wp2
  repeat (go_quiet (fail); try go_wp2)
  go_loopg [5] k (fun kq v5 w' => ∃ (x5_1 : Int), v5 = .int .i64 x5_1 ∧ Aside0 (laws_sameInts.l0 kq l0 l1 x5_1 = some r) ∧ Aside0 (kq ≤ k) ∧ Drawn0 w w')
  case atStart => exact ⟨(0), fa, H', ⟨Nat.le_refl _⟩, fd⟩
  case round =>
   clear H'
   try clear c1
   try clear p2
   try clear c3
   try clear c3b0
   try clear c3b1
   try clear c3b2
   obtain ⟨x5_1, rfl, HA, HK1, ⟨m1, rfl⟩⟩ := hrel
   cases gk with
   | zero => exact absurd HA.out (by simp [laws_sameInts.l0])
   | succ k1 =>
    have H := HA.out
    clear HA
    simp only [laws_sameInts.l0] at H
    by_cases c4 : x5_1 < (l0.length : Int)
    ·rw [if_pos c4] at H
     have c4b0 : decide (x5_1 < (l0.length : Int)) = true := decide_eq_true c4
     clear c4
     by_cases c5 : 0 ≤ x5_1
     ·rw [if_pos c5] at H
      have c5b0 : decide (0 ≤ x5_1) = true := decide_eq_true c5
      clear c5
      by_cases c6 : x5_1 < (l1.length : Int)
      ·rw [if_pos c6] at H
       have c6b0 : decide (x5_1 < (l1.length : Int)) = true := decide_eq_true c6
       clear c6
       by_cases c7 : (rd l0 x5_1) = (rd l1 x5_1)
       ·rw [if_pos c7] at H
        have c7b0 : ((rd l0 x5_1) == (rd l1 x5_1)) = true := beq_iff_eq.mpr c7
        have c7b1 : ((rd l0 x5_1) != (rd l1 x5_1)) = false := bne_eq_false_iff_eq.mpr c7
        clear c7
        have H' := Aside0.mk H
        clear H
        have p309 : 0 ≤ (x5_1 : Int) := of_decide_eq_true am
        have q309 : x5_1 < (l0.length : Int) := of_decide_eq_true am
        obtain ⟨ad309, e309, hx309_0⟩ := Kd.at_int HR0.out x5_1 p309 q309
        cases e309
        replace p309 := eq_true p309
        replace q309 := eq_true q309
        have p310 : 0 ≤ (x5_1 : Int) := of_decide_eq_true am
        have q310 : x5_1 < (l1.length : Int) := of_decide_eq_true am
        obtain ⟨ad310, e310, hx310_0⟩ := Kd.at_int HR1.out x5_1 p310 q310
        cases e310
        replace p310 := eq_true p310
        replace q310 := eq_true q310
        go_wp2
        repeat (go_quiet (fail); try go_wp2)
        go_roundg k1
        case measure => have := HK1.out; omega
        case rel => exact ⟨(wrap64 (x5_1 + 1)), fa, H', ⟨by have := HK1.out; omega⟩, fd⟩
       ·rw [if_neg c7] at H
        have c7b0 : ((rd l0 x5_1) == (rd l1 x5_1)) = false := beq_eq_false_iff_ne.mpr c7
        have c7b1 : ((rd l0 x5_1) != (rd l1 x5_1)) = true := bne_iff_ne.mpr c7
        obtain rfl := Option.some.inj H
        have p309 : 0 ≤ (x5_1 : Int) := of_decide_eq_true am
        have q309 : x5_1 < (l0.length : Int) := of_decide_eq_true am
        obtain ⟨ad309, e309, hx309_0⟩ := Kd.at_int HR0.out x5_1 p309 q309
        cases e309
        replace p309 := eq_true p309
        replace q309 := eq_true q309
        have p310 : 0 ≤ (x5_1 : Int) := of_decide_eq_true am
        have q310 : x5_1 < (l1.length : Int) := of_decide_eq_true am
        obtain ⟨ad310, e310, hx310_0⟩ := Kd.at_int HR1.out x5_1 p310 q310
        cases e310
        replace p310 := eq_true p310
        replace q310 := eq_true q310
        go_wp2
        repeat (go_quiet (fail); try go_wp2)
        go_ret
        exact ⟨fa, fd⟩
      ·rw [if_neg c6] at H
       exact absurd H (by simp)
     ·rw [if_neg c5] at H
      exact absurd H (by simp)
    ·rw [if_neg c4] at H
     have c4b0 : decide (x5_1 < (l0.length : Int)) = false := decide_eq_false c4
     clear c4
     obtain rfl := Option.some.inj H
     go_wp2
     repeat (go_quiet (fail); try go_wp2)
     go_ret
     exact ⟨fa, fd⟩
 ·rw [if_neg c3] at H
  have c3b0 : ((l0.length : Int) == (l1.length : Int)) = false := beq_eq_false_iff_ne.mpr c3
  have c3b1 : ((l0.length : Int) != (l1.length : Int)) = true := bne_iff_ne.mpr c3
  have c3b2 : (l0.length == l1.length) = false := by first | simpa using c3 | (simp at c3 ⊢; omega)
  obtain rfl := Option.some.inj H
  go_enter Try.func49, Try.ntmps49
  go_wp2
  repeat (go_quiet (fail); try go_wp2)
  go_ret
  exact ⟨fa, fd⟩

/-! ### spec_l7Ints: function 100 -/
def spec_l7Ints.l0 : Nat → List Int → Int → Int → List Int → Int → Int → Option (List Int × Int × Int)
 | 0, _, _, _, _, _, _ => none
 | k + 1, x5, x6, x7, x1000, x1001, x1002 => if x7 > 0 then (if x5.length < 17592186044416 then ((some (x5 ++ [x6] : List Int)).bind fun y320 => ((spec_l1Below.f x1000 x1001 x1002 21).bind fun bt323 => ((spec_l1Once.f x1000 bt323.2.1 bt323.2.2 20).bind fun bt326 => (if bt326.1 = true then ((spec_l1PickInt.f x1000 bt326.2.1 bt326.2.2 (([1099511627776, (-1099511627776), 1099511627777, 0] : List Int))).bind fun bt332 => (spec_l7Ints.l0 k y320 bt332.1 (wrap64 (x7 - 1)) x1000 bt332.2.1 bt332.2.2)) else (spec_l7Ints.l0 k y320 (wrap64 ((wrap64 (x6 + bt323.1)) - 10)) (wrap64 (x7 - 1)) x1000 bt326.2.1 bt326.2.2))))) else (none)) else (some (x5, x1001, x1002))
def spec_l7Ints.f (k : Nat) (s0_0 : List Int) (s0_1 : Int) (s0_2 : Int) (a1 : Int) : Option (List Int × Int × Int) := (spec_l1Below.f s0_0 s0_1 s0_2 100).bind fun bt314 => ((spec_l1Below.f s0_0 bt314.2.1 bt314.2.2 a1).bind fun bt317 => (spec_l7Ints.l0 k (([] : List Int)) (wrap64 (bt314.1 - 50)) (wrap64 (1 + bt317.1)) s0_0 bt317.2.1 bt317.2.2))
theorem spec_l7Ints.mono_l : ∀ k, (∀ y0 y1 y2 y3 y4 y5, LeO (spec_l7Ints.l0 k y0 y1 y2 y3 y4 y5) (spec_l7Ints.l0 (k + 1) y0 y1 y2 y3 y4 y5))
 | 0 => fun _ _ _ _ _ _ r h => by simp [spec_l7Ints.l0] at h
 | k + 1 => by
  have ih0 := spec_l7Ints.mono_l k
  ·intro y0 y1 y2 y3 y4 y5
   unfold spec_l7Ints.l0
   repeat' first
   | (with_reducible exact ih0 _ _ _ _ _ _)
   | (with_reducible exact LeO.refl _)
   | (with_reducible exact LeO.none _)
   | (with_reducible refine LeO.ite ?_ ?_)
   | (with_reducible refine LeO.bind ?_ (fun _ => ?_))
   | exact ih0 _ _ _ _ _ _
   | exact LeO.none _
   | refine LeO.ite ?_ ?_
   | refine LeO.bind ?_ (fun _ => ?_)
theorem spec_l7Ints.mono : ∀ a0 a1 a2 a3 k, LeO (spec_l7Ints.f k a0 a1 a2 a3) (spec_l7Ints.f (k + 1) a0 a1 a2 a3) := by
 intro a0 a1 a2 a3 k
 have ih0 := spec_l7Ints.mono_l k
 unfold spec_l7Ints.f
 repeat' first
  | (with_reducible exact ih0 _ _ _ _ _ _)
  | (with_reducible exact LeO.refl _)
  | (with_reducible exact LeO.none _)
  | (with_reducible refine LeO.ite ?_ ?_)
  | (with_reducible refine LeO.bind ?_ (fun _ => ?_))
  | exact ih0 _ _ _ _ _ _
  | exact LeO.none _
  | refine LeO.ite ?_ ?_
  | refine LeO.bind ?_ (fun _ => ?_)
set_option maxHeartbeats 8000000 in
set_option maxRecDepth 100000 in
theorem spec_l7Ints.calls (k : Nat) (g : Nat) (s0_0 : List Int) (s0_1 : Int) (s0_2 : Int) (a1 : Int) (r1 : List Int) (r2 : Int) (r3 : Int) (w0 w : World) (hI : IsS136 w0 w g s0_0 s0_1 s0_2) (hB : Below w0.heap.size w0 w) (h : spec_l7Ints.f k s0_0 s0_1 s0_2 a1 = some (r1, r2, r3)) :
 Calls Try.prog 100 #[.pointer (some ⟨g, 0, none⟩), .int .i64 a1] w fun e w' => ∃ v0_ : Value, e = .returned (v0_) ∧ Kd.R (Kd.int .i64) 3 w' w.heap.size (fun _ => True) v0_ r1 ∧ IsS136 w0 w' g s0_0 r2 r3 ∧ Below w0.heap.size w0 w' ∧ KeepBut w w' g none := by
 have HI0 := Aside0.mk hI
 have HK := Aside0.mk (KeepBut.refl w g none)
 have HL := Aside0.mk hB.size
 clear hI
 have HW0 := Aside0.mk hB.size
 have HB := Aside0.mk hB
 clear hB
 have H : ((spec_l1Below.f s0_0 s0_1 s0_2 100).bind fun bt314 => ((spec_l1Below.f s0_0 bt314.2.1 bt314.2.2 a1).bind fun bt317 => (spec_l7Ints.l0 k (([] : List Int)) (wrap64 (bt314.1 - 50)) (wrap64 (1 + bt317.1)) s0_0 bt317.2.1 bt317.2.2))) = some (r1, r2, r3) := h
 clear h
 obtain ⟨y311, hy311⟩ : ∃ y_ : List Int, y_ = (([] : List Int)) := ⟨_, rfl⟩
 replace H : ((spec_l1Below.f s0_0 s0_1 s0_2 100).bind fun bt314 => ((spec_l1Below.f s0_0 bt314.2.1 bt314.2.2 a1).bind fun bt317 => (spec_l7Ints.l0 k y311 (wrap64 (bt314.1 - 50)) (wrap64 (1 + bt317.1)) s0_0 bt317.2.1 bt317.2.2))) = some (r1, r2, r3) := by first | (rw [hy311]; with_reducible exact H) | (have H2_ := (Option.bind_some _ _).symm.trans H; rw [hy311]; with_reducible exact H2_) | (have H2_ := (Option.bind_some _ _).symm.trans H; with_reducible exact H2_) | with_reducible exact H | (rw [hy311]; exact H) | exact H
 have Ny311 := Aside0.mk hy311
 clear hy311
 replace H := Option.bind_eq_some_iff.mp H
 obtain ⟨⟨t314, t315, t316⟩, A30, H⟩ := H
 replace H : ((spec_l1Below.f s0_0 t315 t316 a1).bind fun bt317 => (spec_l7Ints.l0 k y311 (wrap64 (t314 - 50)) (wrap64 (1 + bt317.1)) s0_0 bt317.2.1 bt317.2.2)) = some (r1, r2, r3) := H
 have A3 := Aside0.mk A30
 clear A30
 replace H := Option.bind_eq_some_iff.mp H
 obtain ⟨⟨t317, t318, t319⟩, A40, H⟩ := H
 replace H : (spec_l7Ints.l0 k y311 (wrap64 (t314 - 50)) (wrap64 (1 + t317)) s0_0 t318 t319) = some (r1, r2, r3) := H
 have A4 := Aside0.mk A40
 clear A40
 have H' := Aside0.mk H
 clear H
 go_enter Try.func100, Try.ntmps100
 go_wp2_with (first | ((with_reducible refine gD 8 rfl ?_); refine Kd.R_lit (Kd.int .i64) _ 3 ?hg (N := 8) ?hd (xs := ([] : List Int)) (inner := []) (ok := fun _ => True) (okp := fun _ => True) ?hr ?hp (fun _ hk => hk) trivial (Below.refl _ _) (Nat.le_refl _) (by simp) ?_; (case hd => rfl); (case hg => rfl); (case hr => first | (go_simp; done) | (go_simp; rfl)); (case hp => exact (Reps.none _ _)); intro v312 w5 ho6 hb hg_ hnew_; clear hg_ hnew_; (first | rw [← Ny311.out] at ho6 | (simp only [Int.reduceToNat] at ho6; rw [← Ny311.out] at ho6)); have HO313 := Aside0.mk (Kd.R_lower ho6 (keep_size (w := w) (g := g) (row := none) (by repeat (first | (with_reducible first | exact HK.out | apply KeepBut.set_ | apply keep_drewN | apply keep_drew | apply keep_alloc) | exact HK.out)))); replace HK := Aside0.mk (KeepBut.trans (by repeat (first | (with_reducible first | exact HK.out | apply KeepBut.set_ | apply keep_drewN | apply keep_drew | apply keep_alloc) | exact HK.out)) (KeepBut.of_below hb g none) (.inl rfl)); replace HB := Aside0.mk (below_step (by repeat (first | (with_reducible first | exact HB.out | apply below_alloc | apply pw_below_drewN | apply below_drew1 | refine below_set ?_ (IsS136.ge HI0.out)) | exact HB.out)) hb); replace HI0 := Aside0.mk (IsS136.below (by repeat (first | (with_reducible first | exact HI0.out | apply IsS136.alloc | apply IsS136.drewN | apply IsS136.drew | apply IsS136.set_1 | apply IsS136.set_2) | exact HI0.out)) hb); clear hb ho6) | ((with_reducible refine gC 102 rfl ?_); refine goesZ (some 10) rfl Try.func102 #[.pointer (some ⟨g, 0, none⟩), .int .i64 100] ?_; (with_reducible refine (spec_l1Below.calls g s0_0 s0_1 s0_2 100 t314 t315 t316 w0 _ ?side1 ?side2 A3.out).mono ?_); (case side1 => repeat (first | (with_reducible first | exact HI0.out | apply IsS136.alloc | apply IsS136.drewN | apply IsS136.drew | apply IsS136.set_1 | apply IsS136.set_2) | exact HI0.out)); (case side2 => repeat (first | (with_reducible first | exact HB.out | apply below_alloc | apply pw_below_drewN | apply below_drew1 | refine below_set ?_ (IsS136.ge HI0.out)) | exact HB.out)); rintro e w7 ⟨rfl, hi, hb, hk⟩; refine ⟨_, rfl, ?_⟩; replace HO313 := Aside0.mk (Kd.R_mono (Kd.R_keep (IsS136.apart (show IsS136 w0 _ g s0_0 s0_1 s0_2 from by repeat (first | (with_reducible first | exact HI0.out | apply IsS136.alloc | apply IsS136.drewN | apply IsS136.drew | apply IsS136.set_1 | apply IsS136.set_2) | exact HI0.out)) (rpR HO313.out) (by decide)) hk (fun _ h => h.2)) (fun _ h => h.1)); replace HK := Aside0.mk (KeepBut.trans (by repeat (first | (with_reducible first | exact HK.out | apply KeepBut.set_ | apply keep_drewN | apply keep_drew | apply keep_alloc) | exact HK.out)) hk (.inl rfl)); replace HB := Aside0.mk (hb); replace HI0 := Aside0.mk (hi); (try clear hb hk hi)) | ((with_reducible refine gC 102 rfl ?_); refine goesZ (some 14) rfl Try.func102 #[.pointer (some ⟨g, 0, none⟩), .int .i64 a1] ?_; (with_reducible refine (spec_l1Below.calls g s0_0 t315 t316 a1 t317 t318 t319 w0 _ ?side1 ?side2 A4.out).mono ?_); (case side1 => repeat (first | (with_reducible first | exact HI0.out | apply IsS136.alloc | apply IsS136.drewN | apply IsS136.drew | apply IsS136.set_1 | apply IsS136.set_2) | exact HI0.out)); (case side2 => repeat (first | (with_reducible first | exact HB.out | apply below_alloc | apply pw_below_drewN | apply below_drew1 | refine below_set ?_ (IsS136.ge HI0.out)) | exact HB.out)); rintro e w8 ⟨rfl, hi, hb, hk⟩; refine ⟨_, rfl, ?_⟩; replace HO313 := Aside0.mk (Kd.R_mono (Kd.R_keep (IsS136.apart (show IsS136 w0 _ g s0_0 t315 t316 from by repeat (first | (with_reducible first | exact HI0.out | apply IsS136.alloc | apply IsS136.drewN | apply IsS136.drew | apply IsS136.set_1 | apply IsS136.set_2) | exact HI0.out)) (rpR HO313.out) (by decide)) hk (fun _ h => h.2)) (fun _ h => h.1)); replace HK := Aside0.mk (KeepBut.trans (by repeat (first | (with_reducible first | exact HK.out | apply KeepBut.set_ | apply keep_drewN | apply keep_drew | apply keep_alloc) | exact HK.out)) hk (.inl rfl)); replace HB := Aside0.mk (hb); replace HI0 := Aside0.mk (hi); (try clear hb hk hi)))
 go_loopg [5, 6, 7] k (fun kq v5 v6 v7 w' => ∃ (x5_1 : List Int) (x6_1 : Int) (x7_1 : Int) (x1001_1 : Int) (x1002_1 : Int), v6 = .int .i64 x6_1 ∧ v7 = .int .i64 x7_1 ∧ Aside0 (spec_l7Ints.l0 kq x5_1 x6_1 x7_1 s0_0 x1001_1 x1002_1 = some (r1, r2, r3)) ∧ Aside0 (kq ≤ k) ∧ Aside0 (Kd.R (Kd.int .i64) 3 w' w.heap.size (fun _ => True) v5 x5_1) ∧ Aside0 (IsS136 w0 w' g s0_0 x1001_1 x1002_1) ∧ Aside0 (KeepBut w w' g none) ∧ Aside0 (Below w0.heap.size w0 w'))
 case atStart => exact ⟨(y311), (wrap64 (t314 - 50)), (wrap64 (1 + t317)), (t318), (t319), fa, fa, H', ⟨Nat.le_refl _⟩, ⟨rpR HO313.out⟩, ⟨by repeat (first | (with_reducible first | exact HI0.out | apply IsS136.alloc | apply IsS136.drewN | apply IsS136.drew | apply IsS136.set_1 | apply IsS136.set_2) | exact HI0.out)⟩, ⟨by repeat (first | (with_reducible first | exact HK.out | apply KeepBut.set_ | apply keep_drewN | apply keep_drew | apply keep_alloc) | exact HK.out)⟩, ⟨by repeat (first | (with_reducible first | exact HB.out | apply below_alloc | apply pw_below_drewN | apply below_drew1 | refine below_set ?_ (IsS136.ge HI0.out)) | exact HB.out)⟩⟩
 case round =>
  clear H'
  try clear c1
  try clear p2
  try clear p6
  obtain ⟨x5_1, x6_1, x7_1, x1001_1, x1002_1, rfl, rfl, HA, HK1, HO_5, HI0, HK, HB⟩ := hrel
  cases gk with
  | zero => exact absurd HA.out (by simp [spec_l7Ints.l0])
  | succ k1 =>
   have H := HA.out
   clear HA
   simp only [spec_l7Ints.l0] at H
   by_cases c9 : x7_1 > 0
   ·rw [if_pos c9] at H
    have c9b0 : decide (0 < x7_1) = true := decide_eq_true c9
    clear c9
    by_cases c10 : x5_1.length < 17592186044416
    ·rw [if_pos c10] at H
     have LMc10 := Aside0.mk c10
     clear c10
     obtain ⟨y320, hy320⟩ : ∃ y_ : List Int, y_ = (x5_1 ++ [x6_1]) := ⟨_, rfl⟩
     replace H : ((spec_l1Below.f s0_0 x1001_1 x1002_1 21).bind fun bt323 => ((spec_l1Once.f s0_0 bt323.2.1 bt323.2.2 20).bind fun bt326 => (if bt326.1 = true then ((spec_l1PickInt.f s0_0 bt326.2.1 bt326.2.2 (([1099511627776, (-1099511627776), 1099511627777, 0] : List Int))).bind fun bt332 => (spec_l7Ints.l0 k1 y320 bt332.1 (wrap64 (x7_1 - 1)) s0_0 bt332.2.1 bt332.2.2)) else (spec_l7Ints.l0 k1 y320 (wrap64 ((wrap64 (x6_1 + bt323.1)) - 10)) (wrap64 (x7_1 - 1)) s0_0 bt326.2.1 bt326.2.2)))) = some (r1, r2, r3) := by first | (rw [hy320]; with_reducible exact H) | (have H2_ := (Option.bind_some _ _).symm.trans H; rw [hy320]; with_reducible exact H2_) | (have H2_ := (Option.bind_some _ _).symm.trans H; with_reducible exact H2_) | with_reducible exact H | (rw [hy320]; exact H) | exact H
     have Ny320 := Aside0.mk hy320
     clear hy320
     replace H := Option.bind_eq_some_iff.mp H
     obtain ⟨⟨t323, t324, t325⟩, A110, H⟩ := H
     replace H : ((spec_l1Once.f s0_0 t324 t325 20).bind fun bt326 => (if bt326.1 = true then ((spec_l1PickInt.f s0_0 bt326.2.1 bt326.2.2 (([1099511627776, (-1099511627776), 1099511627777, 0] : List Int))).bind fun bt332 => (spec_l7Ints.l0 k1 y320 bt332.1 (wrap64 (x7_1 - 1)) s0_0 bt332.2.1 bt332.2.2)) else (spec_l7Ints.l0 k1 y320 (wrap64 ((wrap64 (x6_1 + t323)) - 10)) (wrap64 (x7_1 - 1)) s0_0 bt326.2.1 bt326.2.2))) = some (r1, r2, r3) := H
     have A11 := Aside0.mk A110
     clear A110
     replace H := Option.bind_eq_some_iff.mp H
     obtain ⟨⟨t326, t327, t328⟩, A120, H⟩ := H
     replace H : (if t326 = true then ((spec_l1PickInt.f s0_0 t327 t328 (([1099511627776, (-1099511627776), 1099511627777, 0] : List Int))).bind fun bt332 => (spec_l7Ints.l0 k1 y320 bt332.1 (wrap64 (x7_1 - 1)) s0_0 bt332.2.1 bt332.2.2)) else (spec_l7Ints.l0 k1 y320 (wrap64 ((wrap64 (x6_1 + t323)) - 10)) (wrap64 (x7_1 - 1)) s0_0 t327 t328)) = some (r1, r2, r3) := H
     have A12 := Aside0.mk A120
     clear A120
     by_cases c13 : t326 = true
     ·subst c13
      replace H := iT H
      obtain ⟨y329, hy329⟩ : ∃ y_ : List Int, y_ = (([1099511627776, (-1099511627776), 1099511627777, 0] : List Int)) := ⟨_, rfl⟩
      replace H : ((spec_l1PickInt.f s0_0 t327 t328 y329).bind fun bt332 => (spec_l7Ints.l0 k1 y320 bt332.1 (wrap64 (x7_1 - 1)) s0_0 bt332.2.1 bt332.2.2)) = some (r1, r2, r3) := by first | (rw [hy329]; with_reducible exact H) | (have H2_ := (Option.bind_some _ _).symm.trans H; rw [hy329]; with_reducible exact H2_) | (have H2_ := (Option.bind_some _ _).symm.trans H; with_reducible exact H2_) | with_reducible exact H | (rw [hy329]; exact H) | exact H
      have Ny329 := Aside0.mk hy329
      clear hy329
      replace H := Option.bind_eq_some_iff.mp H
      obtain ⟨⟨t332, t333, t334⟩, A140, H⟩ := H
      replace H : (spec_l7Ints.l0 k1 y320 t332 (wrap64 (x7_1 - 1)) s0_0 t333 t334) = some (r1, r2, r3) := H
      have A14 := Aside0.mk A140
      clear A140
      have H' := Aside0.mk H
      clear H
      go_wp2_with (first | ((with_reducible refine gate_builtin (b := .append) (xs := #[.tmp 20, .tmp 22]) rfl ?_); at_builtin; refine Kd.R_append (Kd.int .i64) w.heap.size rfl (.tmp 20) (.tmp 22) 29 3 (.int .i64 0) 8 rfl Try.underlying29 info3 rfl (by decide) (by omega) u5 x5_1 x6_1 [.int .i64 x6_1] (fun _ => True) (fun _ => False) rfl rfl ?aP (fun _ hk => hk.elim) ?aF ?aO (Below.refl _ _) ?aS ?aL ?_; (case aP => exact rfl); (case aF => exact (fun _ _ => trivial)); (case aO => exact (rpR HO_5.out)); (case aS => exact (keep_size (w := w) (g := g) (row := none) (by repeat (first | (with_reducible first | exact HK.out | apply KeepBut.set_ | apply keep_drewN | apply keep_drew | apply keep_alloc) | exact HK.out)))); (case aL => have := LMc10.out; omega); intro v321 w15 ho hb hg hat; rw [← Ny320.out] at ho; replace HB := Aside0.mk (below_weaken (by repeat (first | (with_reducible first | exact HB.out | apply below_alloc | apply pw_below_drewN | apply below_drew1 | refine below_set ?_ (IsS136.ge HI0.out)) | exact HB.out)) HL.out hb); replace HI0 := Aside0.mk (IsS136.grown (by repeat (first | (with_reducible first | exact HI0.out | apply IsS136.alloc | apply IsS136.drewN | apply IsS136.drew | apply IsS136.set_1 | apply IsS136.set_2) | exact HI0.out)) hg (IsS136.own_ne HI0.out HO_5.out (by decide))); replace HK := Aside0.mk (KeepBut.trans (by repeat (first | (with_reducible first | exact HK.out | apply KeepBut.set_ | apply keep_drewN | apply keep_drew | apply keep_alloc) | exact HK.out)) (KeepBut.of_grown hg g) (Kd.R_base2 HO_5.out)); have HO322 := Aside0.mk (ho); clear HO_5; clear ho hb hg hat) | ((with_reducible refine gC 102 rfl ?_); refine goesZ (some 26) rfl Try.func102 #[.pointer (some ⟨g, 0, none⟩), .int .i64 21] ?_; (with_reducible refine (spec_l1Below.calls g s0_0 x1001_1 x1002_1 21 t323 t324 t325 w0 _ ?side1 ?side2 A11.out).mono ?_); (case side1 => repeat (first | (with_reducible first | exact HI0.out | apply IsS136.alloc | apply IsS136.drewN | apply IsS136.drew | apply IsS136.set_1 | apply IsS136.set_2) | exact HI0.out)); (case side2 => repeat (first | (with_reducible first | exact HB.out | apply below_alloc | apply pw_below_drewN | apply below_drew1 | refine below_set ?_ (IsS136.ge HI0.out)) | exact HB.out)); rintro e w16 ⟨rfl, hi, hb, hk⟩; refine ⟨_, rfl, ?_⟩; replace HO322 := Aside0.mk (Kd.R_mono (Kd.R_keep (IsS136.apart (show IsS136 w0 _ g s0_0 x1001_1 x1002_1 from by repeat (first | (with_reducible first | exact HI0.out | apply IsS136.alloc | apply IsS136.drewN | apply IsS136.drew | apply IsS136.set_1 | apply IsS136.set_2) | exact HI0.out)) (rpR HO322.out) (by decide)) hk (fun _ h => h.2)) (fun _ h => h.1)); replace HK := Aside0.mk (KeepBut.trans (by repeat (first | (with_reducible first | exact HK.out | apply KeepBut.set_ | apply keep_drewN | apply keep_drew | apply keep_alloc) | exact HK.out)) hk (.inl rfl)); replace HB := Aside0.mk (hb); replace HI0 := Aside0.mk (hi); (try clear hb hk hi)) | ((with_reducible refine gC 91 rfl ?_); refine goesZ (some 30) rfl Try.func91 #[.pointer (some ⟨g, 0, none⟩), .int .i64 20] ?_; (with_reducible refine (spec_l1Once.calls g s0_0 t324 t325 20 true t327 t328 w0 _ ?side1 ?side2 A12.out).mono ?_); (case side1 => repeat (first | (with_reducible first | exact HI0.out | apply IsS136.alloc | apply IsS136.drewN | apply IsS136.drew | apply IsS136.set_1 | apply IsS136.set_2) | exact HI0.out)); (case side2 => repeat (first | (with_reducible first | exact HB.out | apply below_alloc | apply pw_below_drewN | apply below_drew1 | refine below_set ?_ (IsS136.ge HI0.out)) | exact HB.out)); rintro e w17 ⟨rfl, hi, hb, hk⟩; refine ⟨_, rfl, ?_⟩; replace HO322 := Aside0.mk (Kd.R_mono (Kd.R_keep (IsS136.apart (show IsS136 w0 _ g s0_0 t324 t325 from by repeat (first | (with_reducible first | exact HI0.out | apply IsS136.alloc | apply IsS136.drewN | apply IsS136.drew | apply IsS136.set_1 | apply IsS136.set_2) | exact HI0.out)) (rpR HO322.out) (by decide)) hk (fun _ h => h.2)) (fun _ h => h.1)); replace HK := Aside0.mk (KeepBut.trans (by repeat (first | (with_reducible first | exact HK.out | apply KeepBut.set_ | apply keep_drewN | apply keep_drew | apply keep_alloc) | exact HK.out)) hk (.inl rfl)); replace HB := Aside0.mk (hb); replace HI0 := Aside0.mk (hi); (try clear hb hk hi)) | ((with_reducible refine gD 32 rfl ?_); refine Kd.R_lit (Kd.int .i64) _ 3 ?hg (N := 32) ?hd (xs := ([1099511627776, (-1099511627776), 1099511627777, 0] : List Int)) (inner := [.int .i64 1099511627776, .int .i64 (-1099511627776), .int .i64 1099511627777, .int .i64 0]) (ok := fun _ => True) (okp := fun _ => True) ?hr ?hp (fun _ hk => hk) trivial (Below.refl _ _) (Nat.le_refl _) (by simp) ?_; (case hd => rfl); (case hg => rfl); (case hr => first | (go_simp; done) | (go_simp; rfl)); (case hp => exact (Reps.one (show Kd.M (Kd.int .i64) _ _ _ 1099511627776 [.int .i64 1099511627776] from rfl) (Reps.one (show Kd.M (Kd.int .i64) _ _ _ (-1099511627776) [.int .i64 (-1099511627776)] from rfl) (Reps.one (show Kd.M (Kd.int .i64) _ _ _ 1099511627777 [.int .i64 1099511627777] from rfl) (Reps.one (show Kd.M (Kd.int .i64) _ _ _ 0 [.int .i64 0] from rfl) (Reps.none _ _)))))); intro v330 w18 ho19 hb hg_ hnew_; clear hg_ hnew_; (first | rw [← Ny329.out] at ho19 | (simp only [Int.reduceToNat] at ho19; rw [← Ny329.out] at ho19)); have HO331 := Aside0.mk (Kd.R_lower (Kd.R_new' ho19 (Kd.R_lt (rpR HO322.out))) (keep_size (w := w) (g := g) (row := none) (by repeat (first | (with_reducible first | exact HK.out | apply KeepBut.set_ | apply keep_drewN | apply keep_drew | apply keep_alloc) | exact HK.out)))); replace HO322 := Aside0.mk (Kd.R_elder' (rpR HO322.out) (Kd.R_base ho19) hb); replace HK := Aside0.mk (KeepBut.trans (by repeat (first | (with_reducible first | exact HK.out | apply KeepBut.set_ | apply keep_drewN | apply keep_drew | apply keep_alloc) | exact HK.out)) (KeepBut.of_below hb g none) (.inl rfl)); replace HB := Aside0.mk (below_step (by repeat (first | (with_reducible first | exact HB.out | apply below_alloc | apply pw_below_drewN | apply below_drew1 | refine below_set ?_ (IsS136.ge HI0.out)) | exact HB.out)) hb); replace HI0 := Aside0.mk (IsS136.below (by repeat (first | (with_reducible first | exact HI0.out | apply IsS136.alloc | apply IsS136.drewN | apply IsS136.drew | apply IsS136.set_1 | apply IsS136.set_2) | exact HI0.out)) hb); clear hb ho19; obtain ⟨Ao20, co20, rfl⟩ := Kd.R_slice HO331.out) | ((with_reducible refine gC 101 rfl ?_); refine goesZ (some 33) rfl Try.func101 #[.pointer (some ⟨g, 0, none⟩), .slice Ao20 y329.length co20] ?_; (with_reducible refine (spec_l1PickInt.calls g s0_0 t327 t328 _ _ y329 t332 t333 t334 w0 _ ?side1 ?side2 ?side3 ?side4 ?side5 A14.out).mono ?_); (case side1 => repeat (first | (with_reducible first | exact HI0.out | apply IsS136.alloc | apply IsS136.drewN | apply IsS136.drew | apply IsS136.set_1 | apply IsS136.set_2) | exact HI0.out)); (case side2 => repeat (first | (with_reducible first | exact HB.out | apply below_alloc | apply pw_below_drewN | apply below_drew1 | refine below_set ?_ (IsS136.ge HI0.out)) | exact HB.out)); (case side3 => exact ca ((Kd.R_reads' HO331.out).2.2)); (case side4 => exact (Kd.R_reads' HO331.out).2.1); (case side5 => exact far_slice (IsS136.own_ne HI0.out HO331.out (by decide))); rintro e w21 ⟨rfl, hi, hb, hk⟩; refine ⟨_, rfl, ?_⟩; replace HO322 := Aside0.mk (Kd.R_mono (Kd.R_keep (IsS136.apart (show IsS136 w0 _ g s0_0 t327 t328 from by repeat (first | (with_reducible first | exact HI0.out | apply IsS136.alloc | apply IsS136.drewN | apply IsS136.drew | apply IsS136.set_1 | apply IsS136.set_2) | exact HI0.out)) (rpR HO322.out) (by decide)) hk (fun _ h => h.2)) (fun _ h => h.1)); replace HO331 := Aside0.mk (Kd.R_mono (Kd.R_keep (IsS136.apart (show IsS136 w0 _ g s0_0 t327 t328 from by repeat (first | (with_reducible first | exact HI0.out | apply IsS136.alloc | apply IsS136.drewN | apply IsS136.drew | apply IsS136.set_1 | apply IsS136.set_2) | exact HI0.out)) (rpR HO331.out) (by decide)) hk (fun _ h => h.2)) (fun _ h => h.1)); replace HK := Aside0.mk (KeepBut.trans (by repeat (first | (with_reducible first | exact HK.out | apply KeepBut.set_ | apply keep_drewN | apply keep_drew | apply keep_alloc) | exact HK.out)) hk (.inl rfl)); replace HB := Aside0.mk (hb); replace HI0 := Aside0.mk (hi); (try clear hb hk hi)))
      go_roundg k1
      case measure => have := HK1.out; omega
      case rel => exact ⟨(y320), (t332), (wrap64 (x7_1 - 1)), (t333), (t334), fa, fa, H', ⟨by have := HK1.out; omega⟩, ⟨rpR (Kd.R_mono HO322.out (fun _ hk => trivial))⟩, ⟨by repeat (first | (with_reducible first | exact HI0.out | apply IsS136.alloc | apply IsS136.drewN | apply IsS136.drew | apply IsS136.set_1 | apply IsS136.set_2) | exact HI0.out)⟩, ⟨by repeat (first | (with_reducible first | exact HK.out | apply KeepBut.set_ | apply keep_drewN | apply keep_drew | apply keep_alloc) | exact HK.out)⟩, ⟨by repeat (first | (with_reducible first | exact HB.out | apply below_alloc | apply pw_below_drewN | apply below_drew1 | refine below_set ?_ (IsS136.ge HI0.out)) | exact HB.out)⟩⟩
     ·replace c13 := Bool.eq_false_iff.mpr c13
      subst c13
      replace H := iF H
      have H' := Aside0.mk H
      clear H
      go_wp2_with (first | ((with_reducible refine gate_builtin (b := .append) (xs := #[.tmp 20, .tmp 22]) rfl ?_); at_builtin; refine Kd.R_append (Kd.int .i64) w.heap.size rfl (.tmp 20) (.tmp 22) 29 3 (.int .i64 0) 8 rfl Try.underlying29 info3 rfl (by decide) (by omega) u5 x5_1 x6_1 [.int .i64 x6_1] (fun _ => True) (fun _ => False) rfl rfl ?aP (fun _ hk => hk.elim) ?aF ?aO (Below.refl _ _) ?aS ?aL ?_; (case aP => exact rfl); (case aF => exact (fun _ _ => trivial)); (case aO => exact (rpR HO_5.out)); (case aS => exact (keep_size (w := w) (g := g) (row := none) (by repeat (first | (with_reducible first | exact HK.out | apply KeepBut.set_ | apply keep_drewN | apply keep_drew | apply keep_alloc) | exact HK.out)))); (case aL => have := LMc10.out; omega); intro v321 w22 ho hb hg hat; rw [← Ny320.out] at ho; replace HB := Aside0.mk (below_weaken (by repeat (first | (with_reducible first | exact HB.out | apply below_alloc | apply pw_below_drewN | apply below_drew1 | refine below_set ?_ (IsS136.ge HI0.out)) | exact HB.out)) HL.out hb); replace HI0 := Aside0.mk (IsS136.grown (by repeat (first | (with_reducible first | exact HI0.out | apply IsS136.alloc | apply IsS136.drewN | apply IsS136.drew | apply IsS136.set_1 | apply IsS136.set_2) | exact HI0.out)) hg (IsS136.own_ne HI0.out HO_5.out (by decide))); replace HK := Aside0.mk (KeepBut.trans (by repeat (first | (with_reducible first | exact HK.out | apply KeepBut.set_ | apply keep_drewN | apply keep_drew | apply keep_alloc) | exact HK.out)) (KeepBut.of_grown hg g) (Kd.R_base2 HO_5.out)); have HO322 := Aside0.mk (ho); clear HO_5; clear ho hb hg hat) | ((with_reducible refine gC 102 rfl ?_); refine goesZ (some 26) rfl Try.func102 #[.pointer (some ⟨g, 0, none⟩), .int .i64 21] ?_; (with_reducible refine (spec_l1Below.calls g s0_0 x1001_1 x1002_1 21 t323 t324 t325 w0 _ ?side1 ?side2 A11.out).mono ?_); (case side1 => repeat (first | (with_reducible first | exact HI0.out | apply IsS136.alloc | apply IsS136.drewN | apply IsS136.drew | apply IsS136.set_1 | apply IsS136.set_2) | exact HI0.out)); (case side2 => repeat (first | (with_reducible first | exact HB.out | apply below_alloc | apply pw_below_drewN | apply below_drew1 | refine below_set ?_ (IsS136.ge HI0.out)) | exact HB.out)); rintro e w23 ⟨rfl, hi, hb, hk⟩; refine ⟨_, rfl, ?_⟩; replace HO322 := Aside0.mk (Kd.R_mono (Kd.R_keep (IsS136.apart (show IsS136 w0 _ g s0_0 x1001_1 x1002_1 from by repeat (first | (with_reducible first | exact HI0.out | apply IsS136.alloc | apply IsS136.drewN | apply IsS136.drew | apply IsS136.set_1 | apply IsS136.set_2) | exact HI0.out)) (rpR HO322.out) (by decide)) hk (fun _ h => h.2)) (fun _ h => h.1)); replace HK := Aside0.mk (KeepBut.trans (by repeat (first | (with_reducible first | exact HK.out | apply KeepBut.set_ | apply keep_drewN | apply keep_drew | apply keep_alloc) | exact HK.out)) hk (.inl rfl)); replace HB := Aside0.mk (hb); replace HI0 := Aside0.mk (hi); (try clear hb hk hi)) | ((with_reducible refine gC 91 rfl ?_); refine goesZ (some 30) rfl Try.func91 #[.pointer (some ⟨g, 0, none⟩), .int .i64 20] ?_; (with_reducible refine (spec_l1Once.calls g s0_0 t324 t325 20 false t327 t328 w0 _ ?side1 ?side2 A12.out).mono ?_); (case side1 => repeat (first | (with_reducible first | exact HI0.out | apply IsS136.alloc | apply IsS136.drewN | apply IsS136.drew | apply IsS136.set_1 | apply IsS136.set_2) | exact HI0.out)); (case side2 => repeat (first | (with_reducible first | exact HB.out | apply below_alloc | apply pw_below_drewN | apply below_drew1 | refine below_set ?_ (IsS136.ge HI0.out)) | exact HB.out)); rintro e w24 ⟨rfl, hi, hb, hk⟩; refine ⟨_, rfl, ?_⟩; replace HO322 := Aside0.mk (Kd.R_mono (Kd.R_keep (IsS136.apart (show IsS136 w0 _ g s0_0 t324 t325 from by repeat (first | (with_reducible first | exact HI0.out | apply IsS136.alloc | apply IsS136.drewN | apply IsS136.drew | apply IsS136.set_1 | apply IsS136.set_2) | exact HI0.out)) (rpR HO322.out) (by decide)) hk (fun _ h => h.2)) (fun _ h => h.1)); replace HK := Aside0.mk (KeepBut.trans (by repeat (first | (with_reducible first | exact HK.out | apply KeepBut.set_ | apply keep_drewN | apply keep_drew | apply keep_alloc) | exact HK.out)) hk (.inl rfl)); replace HB := Aside0.mk (hb); replace HI0 := Aside0.mk (hi); (try clear hb hk hi)))
      go_roundg k1
      case measure => have := HK1.out; omega
      case rel => exact ⟨(y320), (wrap64 ((wrap64 (x6_1 + t323)) - 10)), (wrap64 (x7_1 - 1)), (t327), (t328), fa, fa, H', ⟨by have := HK1.out; omega⟩, ⟨rpR HO322.out⟩, ⟨by repeat (first | (with_reducible first | exact HI0.out | apply IsS136.alloc | apply IsS136.drewN | apply IsS136.drew | apply IsS136.set_1 | apply IsS136.set_2) | exact HI0.out)⟩, ⟨by repeat (first | (with_reducible first | exact HK.out | apply KeepBut.set_ | apply keep_drewN | apply keep_drew | apply keep_alloc) | exact HK.out)⟩, ⟨by repeat (first | (with_reducible first | exact HB.out | apply below_alloc | apply pw_below_drewN | apply below_drew1 | refine below_set ?_ (IsS136.ge HI0.out)) | exact HB.out)⟩⟩
    ·rw [if_neg c10] at H
     exact absurd H (by simp)
   ·rw [if_neg c9] at H
    have c9b0 : decide (0 < x7_1) = false := decide_eq_false c9
    clear c9
    simp only [Option.some.injEq, Prod.mk.injEq] at H
    obtain ⟨rfl, rfl, rfl⟩ := H
    go_wp2
    go_ret
    exact ⟨_, fe, rpR HO_5.out, by repeat (first | (with_reducible first | exact HI0.out | apply IsS136.alloc | apply IsS136.drewN | apply IsS136.drew | apply IsS136.set_1 | apply IsS136.set_2) | exact HI0.out), by repeat (first | (with_reducible first | exact HB.out | apply below_alloc | apply pw_below_drewN | apply below_drew1 | refine below_set ?_ (IsS136.ge HI0.out)) | exact HB.out), by repeat (first | (with_reducible first | exact HK.out | apply KeepBut.set_ | apply keep_drewN | apply keep_drew | apply keep_alloc) | exact HK.out)⟩

end Go.Proofs.Ytfmddjbekophnaa.PFnBits
