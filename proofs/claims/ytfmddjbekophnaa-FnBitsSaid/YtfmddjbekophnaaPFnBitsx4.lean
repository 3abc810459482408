-- PRINTED by print.py (a twelfth state) out of the translation. Not trusted: Lean checks it.
import Derived.Test.YtfmddjbekophnaaPFnBitsx0
import Derived.Test.YtfmddjbekophnaaPFnBitsx1
import Derived.Test.YtfmddjbekophnaaPFnBitsx2
import Derived.Test.YtfmddjbekophnaaPFnBitsx3
import Derived.Test.YtfmddjbekophnaaZip
namespace Go.Proofs.Ytfmddjbekophnaa.PFnBits
open Go.RowKit Go.Proofs.YtfmddjbekophnaaW.PrintWords Go.Proofs.YtfmddjbekophnaaW.PrintLast Go.Proofs.YtfmddjbekophnaaW.PrintMore Go.Proofs.Ytfmddjbekophnaa.Zip
attribute [local go_sem] max2_int min2_int max_two min_two max_three min_three max_four min_four   -- for this text's walks alone
set_option linter.unusedVariables false
set_option linter.unusedSimpArgs false

/-! ### strings_HasPrefix: function 130 -/
def strings_HasPrefix.f (a0 : ByteArray) (a1 : ByteArray) : Option (Bool) := (stringslite_HasPrefix.f a0 a1).bind fun t207 => (some t207)
set_option maxHeartbeats 8000000 in
set_option maxRecDepth 100000 in
theorem strings_HasPrefix.calls (a0 : ByteArray) (a1 : ByteArray) (r : Bool) (w : World) (h : strings_HasPrefix.f a0 a1 = some r) :
 Calls Try.prog 130 #[.string a0, .string a1] w fun e w' => e = .returned (.bool r) ∧ Drawn0 w w' := by
 have H : ((stringslite_HasPrefix.f a0 a1).bind fun t207 => (some t207)) = some r := h
 clear h
 obtain ⟨t207, A3, H⟩ := bd H
 obtain rfl := Option.some.inj H
 go_enter Try.func130, Try.ntmps130
 go_wp2_with (first | ((with_reducible refine gC 146 rfl ?_); refine goesZ (some 7) rfl Try.func146 #[.string a0, .string a1] ?_; (with_reducible refine (stringslite_HasPrefix.calls a0 a1 t207 _ A3.out).mono ?_); rintro e w' ⟨rfl, ⟨nd, rfl⟩⟩; refine ⟨_, rfl, ?_⟩))
 go_ret
 exact ⟨fa, fd⟩

/-! ### impl_began: function 96 -/
def impl_began.f (a0 : ByteArray) (a1 : ByteArray) : Option (Int × Bool) := if a1.toList = ([] : List UInt8) then (some ((a1.size : Int), false)) else ((strings_HasPrefix.f a0 a1).bind fun t208 => (some ((a1.size : Int), t208)))
set_option maxHeartbeats 8000000 in
set_option maxRecDepth 100000 in
theorem impl_began.calls (a0 : ByteArray) (a1 : ByteArray) (r1 : Int) (r2 : Bool) (w : World) (h : impl_began.f a0 a1 = some (r1, r2)) :
 Calls Try.prog 96 #[.string a0, .string a1] w fun e w' => e = .returned (.tuple #[.int .i64 r1, .bool r2]) ∧ Drawn0 w w' := by
 have H : (if a1.toList = ([] : List UInt8) then (some ((a1.size : Int), false)) else ((strings_HasPrefix.f a0 a1).bind fun t208 => (some ((a1.size : Int), t208)))) = some (r1, r2) := h
 clear h
 by_cases c3 : a1.toList = ([] : List UInt8)
 ·rw [if_pos c3] at H
  have c3b0 : (a1.toList == ([] : List UInt8)) = true := beq_iff_eq.mpr c3
  have c3bE := c3b0; simp only [show ∀ l_ : List UInt8, (l_ == []) = l_.isEmpty from fun l_ => by cases l_ <;> rfl] at c3bE
  have c3b1 : (a1.toList != ([] : List UInt8)) = false := bne_eq_false_iff_eq.mpr c3
  clear c3
  simp only [Option.some.injEq, Prod.mk.injEq] at H
  obtain ⟨rfl, rfl⟩ := H
  go_enter Try.func96, Try.ntmps96
  go_wp2
  go_ret2
  exact ⟨fa, fd⟩
 ·rw [if_neg c3] at H
  have c3b0 : (a1.toList == ([] : List UInt8)) = false := beq_eq_false_iff_ne.mpr c3
  have c3bE := c3b0; simp only [show ∀ l_ : List UInt8, (l_ == []) = l_.isEmpty from fun l_ => by cases l_ <;> rfl] at c3bE
  have c3b1 : (a1.toList != ([] : List UInt8)) = true := bne_iff_ne.mpr c3
  obtain ⟨t208, A4, H⟩ := bd H
  simp only [Option.some.injEq, Prod.mk.injEq] at H
  obtain ⟨rfl, rfl⟩ := H
  go_enter Try.func96, Try.ntmps96
  go_wp2_with (first | (go_at_call 130; (with_reducible refine (strings_HasPrefix.calls a0 a1 t208 _ A4.out).mono ?_); rintro e w' ⟨rfl, ⟨nd, rfl⟩⟩))
  go_ret2
  exact ⟨fa, fd⟩

/-! ### impl_ReadValues: function 43 -/
def impl_ReadValues.l0 : Nat → ByteArray → List Int → Int → Int → Int → ByteArray → Bool → Option (List Int × Int)
 | 0, _, _, _, _, _, _, _ => none
 | k + 1, x0, x7, x8, x18, x19, x211000, x211001 => if x19 < x18 then ((impl_reader_zag.f k x211000 x211001).bind fun bt214 => (if x7.length < 17592186044416 then (impl_ReadValues.l0 k x0 (x7 ++ [wrap64 (x8 + bt214.1)]) (wrap64 (x8 + bt214.1)) x18 (wrap64 (x19 + 1)) bt214.2.1 bt214.2.2) else (none))) else ((impl_ShowValues.f k x7).bind fun t220 => ((impl_began.f x0 t220).bind fun bt221 => (if x211001 = true then (if bt221.2 = true then (some (x7, bt221.1)) else (some (([] : List Int), 0))) else (some (([] : List Int), 0)))))
def impl_ReadValues.f (k : Nat) (a0 : ByteArray) (a1 : Int) : Option (List Int × Int) := (impl_from.f a1 1 60).bind fun t209 => (if t209 = true then (impl_ReadValues.l0 k a0 (([] : List Int)) 0 a1 0 a0 true) else (some (([] : List Int), 0)))
theorem impl_ReadValues.mono_l : ∀ k, (∀ y0 y1 y2 y3 y4 y5 y6, LeO (impl_ReadValues.l0 k y0 y1 y2 y3 y4 y5 y6) (impl_ReadValues.l0 (k + 1) y0 y1 y2 y3 y4 y5 y6))
 | 0 => fun _ _ _ _ _ _ _ r h => by simp [impl_ReadValues.l0] at h
 | k + 1 => by
  have ih0 := impl_ReadValues.mono_l k
  ·intro y0 y1 y2 y3 y4 y5 y6
   unfold impl_ReadValues.l0
   repeat' first
   | (with_reducible exact ih0 _ _ _ _ _ _ _)
   | (with_reducible exact impl_ShowValues.mono _ _)
   | (with_reducible exact impl_reader_zag.mono _ _ _)
   | (with_reducible exact LeO.refl _)
   | (with_reducible exact LeO.none _)
   | (with_reducible refine LeO.ite ?_ ?_)
   | (with_reducible refine LeO.bind ?_ (fun _ => ?_))
   | exact ih0 _ _ _ _ _ _ _
   | exact impl_ShowValues.mono _ _
   | exact impl_reader_zag.mono _ _ _
   | exact LeO.none _
   | refine LeO.ite ?_ ?_
   | refine LeO.bind ?_ (fun _ => ?_)
theorem impl_ReadValues.mono : ∀ a0 a1 k, LeO (impl_ReadValues.f k a0 a1) (impl_ReadValues.f (k + 1) a0 a1) := by
 intro a0 a1 k
 have ih0 := impl_ReadValues.mono_l k
 unfold impl_ReadValues.f
 repeat' first
  | (with_reducible exact ih0 _ _ _ _ _ _ _)
  | (with_reducible exact impl_ShowValues.mono _ _)
  | (with_reducible exact impl_reader_zag.mono _ _ _)
  | (with_reducible exact LeO.refl _)
  | (with_reducible exact LeO.none _)
  | (with_reducible refine LeO.ite ?_ ?_)
  | (with_reducible refine LeO.bind ?_ (fun _ => ?_))
  | exact ih0 _ _ _ _ _ _ _
  | exact impl_ShowValues.mono _ _
  | exact impl_reader_zag.mono _ _ _
  | exact LeO.none _
  | refine LeO.ite ?_ ?_
  | refine LeO.bind ?_ (fun _ => ?_)
set_option maxHeartbeats 8000000 in
set_option maxRecDepth 100000 in
theorem impl_ReadValues.calls (k : Nat) (a0 : ByteArray) (a1 : Int) (r1 : List Int) (r2 : Int) (w : World) (h : impl_ReadValues.f k a0 a1 = some (r1, r2)) :
 Calls Try.prog 43 #[.string a0, .int .i64 a1] w fun e w' => ∃ v0_ : Value, e = .returned (.tuple #[v0_, .int .i64 r2]) ∧ Kd.R (Kd.int .i64) 3 w' w.heap.size (fun _ => True) v0_ r1 ∧ Below w.heap.size w w' := by
 have hu106 := Try.underlying106
 have HB := Aside0.mk (Below.refl w.heap.size w)
 have H : ((impl_from.f a1 1 60).bind fun t209 => (if t209 = true then (impl_ReadValues.l0 k a0 (([] : List Int)) 0 a1 0 a0 true) else (some (([] : List Int), 0)))) = some (r1, r2) := h
 clear h
 obtain ⟨t209, A3, H⟩ := bd H
 by_cases c4 : t209 = true
 ·subst c4
  replace H := iT H
  obtain ⟨y211, hy211⟩ : ∃ y_ : List Int, y_ = (([] : List Int)) := ⟨_, rfl⟩
  replace H : (impl_ReadValues.l0 k a0 y211 0 a1 0 a0 true) = some (r1, r2) := by first | (rw [hy211]; with_reducible exact H) | (have H2_ := (Option.bind_some _ _).symm.trans H; rw [hy211]; with_reducible exact H2_) | (have H2_ := (Option.bind_some _ _).symm.trans H; with_reducible exact H2_) | with_reducible exact H | (rw [hy211]; exact H) | exact H
  have Ny211 := Aside0.mk hy211
  clear hy211
  have H' := Aside0.mk H
  clear H
  go_enter Try.func43, Try.ntmps43
  go_wp2_with (first | ((with_reducible refine gC 78 rfl ?_); refine goesZ (some 12) rfl Try.func78 #[.int .i64 a1, .int .i64 1, .int .i64 60] ?_; (with_reducible refine (impl_from.calls a1 1 60 true _ A3.out).mono ?_); rintro e w' ⟨rfl, ⟨nd, rfl⟩⟩; refine ⟨_, rfl, ?_⟩) | ((with_reducible refine gD 16 rfl ?_); refine boxZ 16 #[.string a0, .bool true] 106 ?_; intro gb210 hg w5 hbox hb; have BK210 := Aside0.mk hbox; have GW210 := gw (w := w) hg; have GE210 := gw (w := w) hg; replace HB := bs (w := w) hb; clear hb hbox hg) | ((with_reducible refine gD 17 rfl ?_); refine Kd.R_lit (Kd.int .i64) _ 3 ?hg (N := 17) ?hd (xs := ([] : List Int)) (inner := []) (ok := fun _ => True) (okp := fun _ => True) ?hr ?hp (fun _ hk => hk) trivial (Below.refl _ _) (Nat.le_refl _) (by simp) ?_; (case hd => rfl); (case hg => rfl); (case hr => first | (go_simp; done) | (go_simp; rfl)); (case hp => exact (Reps.none _ _)); intro v212 w6 ho7 hb hg_ hnew_; clear hg_ hnew_; (first | rw [← Ny211.out] at ho7 | (simp only [Int.reduceToNat] at ho7; rw [← Ny211.out] at ho7)); have HO213 := Aside0.mk (Kd.R_lower ho7 (below_size bl)); replace BK210 := bv BK210 hb; replace HB := bs (w := w) hb; clear hb ho7))
  go_loopg [7, 8, 19] k (fun kq v7 v8 v19 w' => ∃ (x7_1 : List Int) (x8_1 : Int) (x19_1 : Int) (x211000_1 : ByteArray) (x211001_1 : Bool), v8 = .int .i64 x8_1 ∧ v19 = .int .i64 x19_1 ∧ Aside0 (impl_ReadValues.l0 kq a0 x7_1 x8_1 a1 x19_1 x211000_1 x211001_1 = some (r1, r2)) ∧ Aside0 (kq ≤ k) ∧ Aside0 (Kd.R (Kd.int .i64) 3 w' w.heap.size (fun _ => True) v7 x7_1) ∧ Aside0 (w'.heap[gb210]? = some (.cells #[.string x211000_1, .bool x211001_1] 106 (0, 0))) ∧ Aside0 (Below w.heap.size w w'))
  case atStart => exact ⟨(y211), (0), (0), (a0), (true), fa, fa, H', ⟨Nat.le_refl _⟩, ⟨rpR HO213.out⟩, ⟨by (with_reducible repeat (first | refine blk_drewN ?_ _ | refine blk_drew ?_ | refine blk_alloc ?_ _)); exact BK210.out⟩, ⟨bl⟩⟩
  case round =>
   clear H'
   try clear p2
   try clear c4
   try clear c7
   obtain ⟨x7_1, x8_1, x19_1, x211000_1, x211001_1, rfl, rfl, HA, HK1, HO_7, BK210, HB⟩ := hrel
   cases gk with
   | zero => exact absurd HA.out (by simp [impl_ReadValues.l0])
   | succ k1 =>
    have H := HA.out
    clear HA
    simp only [impl_ReadValues.l0] at H
    by_cases c8 : x19_1 < a1
    ·rw [if_pos c8] at H
     have c8b0 : decide (x19_1 < a1) = true := decide_eq_true c8
     clear c8
     replace H := Option.bind_eq_some_iff.mp H
     obtain ⟨⟨t214, t215, t216⟩, A90, H⟩ := H
     replace H : (if x7_1.length < 17592186044416 then (impl_ReadValues.l0 k1 a0 (x7_1 ++ [wrap64 (x8_1 + t214)]) (wrap64 (x8_1 + t214)) a1 (wrap64 (x19_1 + 1)) t215 t216) else (none)) = some (r1, r2) := H
     have A9 := Aside0.mk A90
     clear A90
     by_cases c10 : x7_1.length < 17592186044416
     ·rw [if_pos c10] at H
      have LMc10 := Aside0.mk c10
      clear c10
      obtain ⟨y217, hy217⟩ : ∃ y_ : List Int, y_ = (x7_1 ++ [wrap64 (x8_1 + t214)]) := ⟨_, rfl⟩
      replace H : (impl_ReadValues.l0 k1 a0 y217 (wrap64 (x8_1 + t214)) a1 (wrap64 (x19_1 + 1)) t215 t216) = some (r1, r2) := by first | (rw [hy217]; with_reducible exact H) | (have H2_ := (Option.bind_some _ _).symm.trans H; rw [hy217]; with_reducible exact H2_) | (have H2_ := (Option.bind_some _ _).symm.trans H; with_reducible exact H2_) | with_reducible exact H | (rw [hy217]; exact H) | exact H
      have Ny217 := Aside0.mk hy217
      clear hy217
      have H' := Aside0.mk H
      clear H
      have HI210 := Aside0.mk (show IsS106 w _ _ _ _ from ⟨BK210.out, GW210.out⟩)
      go_wp2_with (first | ((with_reducible refine gC 95 rfl ?_); refine goesZ (some 23) rfl Try.func95 #[.pointer (some ⟨gb210, 0, none⟩)] ?_; (with_reducible refine (impl_reader_zag.calls k1 gb210 x211000_1 x211001_1 t214 t215 t216 w _ ?side1 ?side2 A9.out).mono ?_); (case side1 => repeat (first | (with_reducible first | exact HI210.out | apply IsS106.alloc | apply IsS106.drewN | apply IsS106.drew | apply IsS106.set_0 | apply IsS106.set_1) | exact HI210.out)); (case side2 => repeat (first | (with_reducible first | exact HB.out | apply below_alloc | apply pw_below_drewN | apply below_drew1 | refine below_set ?_ (IsS106.ge HI210.out)) | exact HB.out)); rintro e w11 ⟨rfl, hi, hb, hk⟩; refine ⟨_, rfl, ?_⟩; replace HO_7 := Aside0.mk (Kd.R_mono (Kd.R_keep (IsS106.apart (show IsS106 w _ gb210 x211000_1 x211001_1 from by repeat (first | (with_reducible first | exact HI210.out | apply IsS106.alloc | apply IsS106.drewN | apply IsS106.drew | apply IsS106.set_0 | apply IsS106.set_1) | exact HI210.out)) (rpR HO_7.out) (by decide)) hk (fun _ h => h.2)) (fun _ h => h.1)); replace HB := Aside0.mk (hb); replace HI210 := Aside0.mk (hi); (try clear hb hk hi)) | ((with_reducible refine gate_builtin (b := .append) (xs := #[.tmp 25, .tmp 27]) rfl ?_); at_builtin; refine Kd.R_append (Kd.int .i64) (w0 := w) w.heap.size rfl (.tmp 25) (.tmp 27) 29 3 (.int .i64 0) 8 rfl Try.underlying29 info3 rfl (by decide) (by omega) u7 x7_1 (wrap64 (x8_1 + t214)) [.int .i64 (wrap64 (x8_1 + t214))] (fun _ => True) (fun _ => False) rfl rfl ?aP (fun _ hk => hk.elim) ?aF ?aO ?aB ?aS ?aL ?_; (case aP => exact rfl); (case aB => exact (by repeat (first | (with_reducible first | exact HB.out | apply below_alloc | apply pw_below_drewN | apply below_drew1 | refine below_set ?_ (IsS106.ge HI210.out)) | exact HB.out))); (case aF => exact (fun _ _ => trivial)); (case aO => exact (rpR HO_7.out)); (case aS => exact (below_size (by repeat (first | (with_reducible first | exact HB.out | apply below_alloc | apply pw_below_drewN | apply below_drew1 | refine below_set ?_ (IsS106.ge HI210.out)) | exact HB.out)))); (case aL => have := LMc10.out; omega); intro v218 w12 ho hb hg hat; rw [← Ny217.out] at ho; replace HI210 := Aside0.mk (IsS106.grown (by repeat (first | (with_reducible first | exact HI210.out | apply IsS106.alloc | apply IsS106.drewN | apply IsS106.drew | apply IsS106.set_0 | apply IsS106.set_1) | exact HI210.out)) hg (IsS106.own_ne HI210.out HO_7.out (by decide))); replace HB := Aside0.mk (hb); have HO219 := Aside0.mk (ho); clear HO_7; clear ho hb hg hat))
      go_roundg k1
      case measure => have := HK1.out; omega
      case rel => exact ⟨(y217), (wrap64 (x8_1 + t214)), (wrap64 (x19_1 + 1)), (t215), (t216), fa, fa, H', ⟨by have := HK1.out; omega⟩, ⟨rpR HO219.out⟩, ⟨(show IsS106 w _ gb210 _ _ from by repeat (first | (with_reducible first | exact HI210.out | apply IsS106.alloc | apply IsS106.drewN | apply IsS106.drew | apply IsS106.set_0 | apply IsS106.set_1) | exact HI210.out)).1⟩, ⟨by repeat (first | (with_reducible first | exact HB.out | apply below_alloc | apply pw_below_drewN | apply below_drew1 | refine below_set ?_ (IsS106.ge HI210.out)) | exact HB.out)⟩⟩
     ·rw [if_neg c10] at H
      exact absurd H (by simp)
    ·rw [if_neg c8] at H
     have c8b0 : decide (x19_1 < a1) = false := decide_eq_false c8
     clear c8
     obtain ⟨t220, A13, H⟩ := bd H
     replace H := Option.bind_eq_some_iff.mp H
     obtain ⟨⟨t221, t222⟩, A140, H⟩ := H
     replace H : (if x211001_1 = true then (if t222 = true then (some (x7_1, t221)) else (some (([] : List Int), 0))) else (some (([] : List Int), 0))) = some (r1, r2) := H
     have A14 := Aside0.mk A140
     clear A140
     by_cases c15 : x211001_1 = true
     ·subst c15
      replace H := iT H
      by_cases c16 : t222 = true
      ·subst c16
       replace H := iT H
       simp only [Option.some.injEq, Prod.mk.injEq] at H
       obtain ⟨rfl, rfl⟩ := H
       obtain ⟨Ao17, co17, eo17⟩ := Kd.R_slice HO_7.out
       subst eo17
       go_wp2_with (first | ((with_reducible refine gC 22 rfl ?_); refine goesZ (some 33) rfl Try.func22 #[.slice Ao17 x7_1.length co17] ?_; (with_reducible refine (impl_ShowValues.calls k1 _ _ x7_1 t220 _ ?side1 ?side2 A13.out).mono ?_); (case side1 => exact ca ((Kd.R_reads' HO_7.out).2.2)); (case side2 => exact (Kd.R_reads' HO_7.out).2.1); rintro e w18 ⟨rfl, hb⟩; refine ⟨_, rfl, ?_⟩; replace HO_7 := Aside0.mk (Kd.R_below (rpR HO_7.out) hb); replace BK210 := bv BK210 hb; replace HB := bs (w := w) hb; (try clear hb)) | ((with_reducible refine gC 96 rfl ?_); refine goesZ (some 34) rfl Try.func96 #[.string a0, .string t220] ?_; (with_reducible refine (impl_began.calls a0 t220 t221 true _ A14.out).mono ?_); rintro e w' ⟨rfl, ⟨nd, rfl⟩⟩; refine ⟨_, rfl, ?_⟩; obtain ⟨Z19_0, Z19_1, Y19_0, Y19_1⟩ := cf2 BK210))
       go_ret2
       exact ⟨_, fe, rpR HO_7.out, bl⟩
      ·replace c16 := Bool.eq_false_iff.mpr c16
       subst c16
       replace H := iF H
       simp only [Option.some.injEq, Prod.mk.injEq] at H
       obtain ⟨rfl, rfl⟩ := H
       obtain ⟨Ao20, co20, eo20⟩ := Kd.R_slice HO_7.out
       subst eo20
       go_wp2_with (first | ((with_reducible refine gC 22 rfl ?_); refine goesZ (some 33) rfl Try.func22 #[.slice Ao20 x7_1.length co20] ?_; (with_reducible refine (impl_ShowValues.calls k1 _ _ x7_1 t220 _ ?side1 ?side2 A13.out).mono ?_); (case side1 => exact ca ((Kd.R_reads' HO_7.out).2.2)); (case side2 => exact (Kd.R_reads' HO_7.out).2.1); rintro e w21 ⟨rfl, hb⟩; refine ⟨_, rfl, ?_⟩; replace HO_7 := Aside0.mk (Kd.R_below (rpR HO_7.out) hb); replace BK210 := bv BK210 hb; replace HB := bs (w := w) hb; (try clear hb)) | ((with_reducible refine gC 96 rfl ?_); refine goesZ (some 34) rfl Try.func96 #[.string a0, .string t220] ?_; (with_reducible refine (impl_began.calls a0 t220 t221 false _ A14.out).mono ?_); rintro e w' ⟨rfl, ⟨nd, rfl⟩⟩; refine ⟨_, rfl, ?_⟩; obtain ⟨Z22_0, Z22_1, Y22_0, Y22_1⟩ := cf2 BK210))
       go_ret2
       exact ⟨_, fe, by first | exact Kd.R_nil _ _ _ _ _ | exact Kd.N_nil _ _ _ _ _ | exact Kd.V_nil _ _ _ _ _ | exact Kd.Q_nil _ _ _ _ _ | exact Kd.S_nil _ _ _ _ _, bl⟩
     ·replace c15 := Bool.eq_false_iff.mpr c15
      subst c15
      replace H := iF H
      simp only [Option.some.injEq, Prod.mk.injEq] at H
      obtain ⟨rfl, rfl⟩ := H
      obtain ⟨Ao23, co23, eo23⟩ := Kd.R_slice HO_7.out
      subst eo23
      go_wp2_with (first | ((with_reducible refine gC 22 rfl ?_); refine goesZ (some 33) rfl Try.func22 #[.slice Ao23 x7_1.length co23] ?_; (with_reducible refine (impl_ShowValues.calls k1 _ _ x7_1 t220 _ ?side1 ?side2 A13.out).mono ?_); (case side1 => exact ca ((Kd.R_reads' HO_7.out).2.2)); (case side2 => exact (Kd.R_reads' HO_7.out).2.1); rintro e w24 ⟨rfl, hb⟩; refine ⟨_, rfl, ?_⟩; replace HO_7 := Aside0.mk (Kd.R_below (rpR HO_7.out) hb); replace BK210 := bv BK210 hb; replace HB := bs (w := w) hb; (try clear hb)) | ((with_reducible refine gC 96 rfl ?_); refine goesZ (some 34) rfl Try.func96 #[.string a0, .string t220] ?_; (with_reducible refine (impl_began.calls a0 t220 t221 t222 _ A14.out).mono ?_); rintro e w' ⟨rfl, ⟨nd, rfl⟩⟩; refine ⟨_, rfl, ?_⟩; obtain ⟨Z25_0, Z25_1, Y25_0, Y25_1⟩ := cf2 BK210))
      go_ret2
      exact ⟨_, fe, by first | exact Kd.R_nil _ _ _ _ _ | exact Kd.N_nil _ _ _ _ _ | exact Kd.V_nil _ _ _ _ _ | exact Kd.Q_nil _ _ _ _ _ | exact Kd.S_nil _ _ _ _ _, bl⟩
 ·replace c4 := Bool.eq_false_iff.mpr c4
  subst c4
  replace H := iF H
  simp only [Option.some.injEq, Prod.mk.injEq] at H
  obtain ⟨rfl, rfl⟩ := H
  go_enter Try.func43, Try.ntmps43
  go_wp2_with (first | ((with_reducible refine gC 78 rfl ?_); refine goesZ (some 12) rfl Try.func78 #[.int .i64 a1, .int .i64 1, .int .i64 60] ?_; (with_reducible refine (impl_from.calls a1 1 60 false _ A3.out).mono ?_); rintro e w' ⟨rfl, ⟨nd, rfl⟩⟩; refine ⟨_, rfl, ?_⟩))
  go_ret2
  exact ⟨_, fe, by first | exact Kd.R_nil _ _ _ _ _ | exact Kd.N_nil _ _ _ _ _ | exact Kd.V_nil _ _ _ _ _ | exact Kd.Q_nil _ _ _ _ _ | exact Kd.S_nil _ _ _ _ _, bl⟩

/-! ### impl_ReadTimes: function 47 -/
def impl_ReadTimes.l0 : Nat → ByteArray → List Int → Int → Int → Int → Int → ByteArray → Bool → Option (List Int × Int)
 | 0, _, _, _, _, _, _, _, _ => none
 | k + 1, x0, x7, x8, x9, x20, x21, x225000, x225001 => if x21 < x20 then (if x21 < 2 then ((impl_reader_num.f k x225000 x225001).bind fun bt228 => (if x7.length < 17592186044416 then (impl_ReadTimes.l0 k x0 (x7 ++ [wrap64 (x9 + bt228.1)]) bt228.1 (wrap64 (x9 + bt228.1)) x20 (wrap64 (x21 + 1)) bt228.2.1 bt228.2.2) else (none))) else ((impl_reader_zag.f k x225000 x225001).bind fun bt234 => (if x7.length < 17592186044416 then (impl_ReadTimes.l0 k x0 (x7 ++ [wrap64 (x9 + (wrap64 (x8 + bt234.1)))]) (wrap64 (x8 + bt234.1)) (wrap64 (x9 + (wrap64 (x8 + bt234.1)))) x20 (wrap64 (x21 + 1)) bt234.2.1 bt234.2.2) else (none)))) else ((impl_ShowTimes.f k x7).bind fun t240 => ((impl_began.f x0 t240).bind fun bt241 => (if x225001 = true then (if bt241.2 = true then (some (x7, bt241.1)) else (some (([] : List Int), 0))) else (some (([] : List Int), 0)))))
def impl_ReadTimes.f (k : Nat) (a0 : ByteArray) (a1 : Int) : Option (List Int × Int) := (impl_from.f a1 1 60).bind fun t223 => (if t223 = true then (impl_ReadTimes.l0 k a0 (([] : List Int)) 0 0 a1 0 a0 true) else (some (([] : List Int), 0)))
theorem impl_ReadTimes.mono_l : ∀ k, (∀ y0 y1 y2 y3 y4 y5 y6 y7, LeO (impl_ReadTimes.l0 k y0 y1 y2 y3 y4 y5 y6 y7) (impl_ReadTimes.l0 (k + 1) y0 y1 y2 y3 y4 y5 y6 y7))
 | 0 => fun _ _ _ _ _ _ _ _ r h => by simp [impl_ReadTimes.l0] at h
 | k + 1 => by
  have ih0 := impl_ReadTimes.mono_l k
  ·intro y0 y1 y2 y3 y4 y5 y6 y7
   unfold impl_ReadTimes.l0
   repeat' first
   | (with_reducible exact ih0 _ _ _ _ _ _ _ _)
   | (with_reducible exact impl_ShowTimes.mono _ _)
   | (with_reducible exact impl_reader_num.mono _ _ _)
   | (with_reducible exact impl_reader_zag.mono _ _ _)
   | (with_reducible exact LeO.refl _)
   | (with_reducible exact LeO.none _)
   | (with_reducible refine LeO.ite ?_ ?_)
   | (with_reducible refine LeO.bind ?_ (fun _ => ?_))
   | exact ih0 _ _ _ _ _ _ _ _
   | exact impl_ShowTimes.mono _ _
   | exact impl_reader_num.mono _ _ _
   | exact impl_reader_zag.mono _ _ _
   | exact LeO.none _
   | refine LeO.ite ?_ ?_
   | refine LeO.bind ?_ (fun _ => ?_)
theorem impl_ReadTimes.mono : ∀ a0 a1 k, LeO (impl_ReadTimes.f k a0 a1) (impl_ReadTimes.f (k + 1) a0 a1) := by
 intro a0 a1 k
 have ih0 := impl_ReadTimes.mono_l k
 unfold impl_ReadTimes.f
 repeat' first
  | (with_reducible exact ih0 _ _ _ _ _ _ _ _)
  | (with_reducible exact impl_ShowTimes.mono _ _)
  | (with_reducible exact impl_reader_num.mono _ _ _)
  | (with_reducible exact impl_reader_zag.mono _ _ _)
  | (with_reducible exact LeO.refl _)
  | (with_reducible exact LeO.none _)
  | (with_reducible refine LeO.ite ?_ ?_)
  | (with_reducible refine LeO.bind ?_ (fun _ => ?_))
  | exact ih0 _ _ _ _ _ _ _ _
  | exact impl_ShowTimes.mono _ _
  | exact impl_reader_num.mono _ _ _
  | exact impl_reader_zag.mono _ _ _
  | exact LeO.none _
  | refine LeO.ite ?_ ?_
  | refine LeO.bind ?_ (fun _ => ?_)
set_option maxHeartbeats 8000000 in
set_option maxRecDepth 100000 in
theorem impl_ReadTimes.calls (k : Nat) (a0 : ByteArray) (a1 : Int) (r1 : List Int) (r2 : Int) (w : World) (h : impl_ReadTimes.f k a0 a1 = some (r1, r2)) :
 Calls Try.prog 47 #[.string a0, .int .i64 a1] w fun e w' => ∃ v0_ : Value, e = .returned (.tuple #[v0_, .int .i64 r2]) ∧ Kd.R (Kd.int .i64) 3 w' w.heap.size (fun _ => True) v0_ r1 ∧ Below w.heap.size w w' := by
 have hu106 := Try.underlying106
 have HB := Aside0.mk (Below.refl w.heap.size w)
 have H : ((impl_from.f a1 1 60).bind fun t223 => (if t223 = true then (impl_ReadTimes.l0 k a0 (([] : List Int)) 0 0 a1 0 a0 true) else (some (([] : List Int), 0)))) = some (r1, r2) := h
 clear h
 obtain ⟨t223, A3, H⟩ := bd H
 by_cases c4 : t223 = true
 ·subst c4
  replace H := iT H
  obtain ⟨y225, hy225⟩ : ∃ y_ : List Int, y_ = (([] : List Int)) := ⟨_, rfl⟩
  replace H : (impl_ReadTimes.l0 k a0 y225 0 0 a1 0 a0 true) = some (r1, r2) := by first | (rw [hy225]; with_reducible exact H) | (have H2_ := (Option.bind_some _ _).symm.trans H; rw [hy225]; with_reducible exact H2_) | (have H2_ := (Option.bind_some _ _).symm.trans H; with_reducible exact H2_) | with_reducible exact H | (rw [hy225]; exact H) | exact H
  have Ny225 := Aside0.mk hy225
  clear hy225
  have H' := Aside0.mk H
  clear H
  go_enter Try.func47, Try.ntmps47
  go_wp2_with (first | ((with_reducible refine gC 78 rfl ?_); refine goesZ (some 14) rfl Try.func78 #[.int .i64 a1, .int .i64 1, .int .i64 60] ?_; (with_reducible refine (impl_from.calls a1 1 60 true _ A3.out).mono ?_); rintro e w' ⟨rfl, ⟨nd, rfl⟩⟩; refine ⟨_, rfl, ?_⟩) | ((with_reducible refine gD 18 rfl ?_); refine boxZ 18 #[.string a0, .bool true] 106 ?_; intro gb224 hg w5 hbox hb; have BK224 := Aside0.mk hbox; have GW224 := gw (w := w) hg; have GE224 := gw (w := w) hg; replace HB := bs (w := w) hb; clear hb hbox hg) | ((with_reducible refine gD 19 rfl ?_); refine Kd.R_lit (Kd.int .i64) _ 3 ?hg (N := 19) ?hd (xs := ([] : List Int)) (inner := []) (ok := fun _ => True) (okp := fun _ => True) ?hr ?hp (fun _ hk => hk) trivial (Below.refl _ _) (Nat.le_refl _) (by simp) ?_; (case hd => rfl); (case hg => rfl); (case hr => first | (go_simp; done) | (go_simp; rfl)); (case hp => exact (Reps.none _ _)); intro v226 w6 ho7 hb hg_ hnew_; clear hg_ hnew_; (first | rw [← Ny225.out] at ho7 | (simp only [Int.reduceToNat] at ho7; rw [← Ny225.out] at ho7)); have HO227 := Aside0.mk (Kd.R_lower ho7 (below_size bl)); replace BK224 := bv BK224 hb; replace HB := bs (w := w) hb; clear hb ho7))
  go_loopg [7, 8, 9, 21] k (fun kq v7 v8 v9 v21 w' => ∃ (x7_1 : List Int) (x8_1 : Int) (x9_1 : Int) (x21_1 : Int) (x225000_1 : ByteArray) (x225001_1 : Bool), v8 = .int .i64 x8_1 ∧ v9 = .int .i64 x9_1 ∧ v21 = .int .i64 x21_1 ∧ Aside0 (impl_ReadTimes.l0 kq a0 x7_1 x8_1 x9_1 a1 x21_1 x225000_1 x225001_1 = some (r1, r2)) ∧ Aside0 (kq ≤ k) ∧ Aside0 (Kd.R (Kd.int .i64) 3 w' w.heap.size (fun _ => True) v7 x7_1) ∧ Aside0 (w'.heap[gb224]? = some (.cells #[.string x225000_1, .bool x225001_1] 106 (0, 0))) ∧ Aside0 (Below w.heap.size w w'))
  case atStart => exact ⟨(y225), (0), (0), (0), (a0), (true), fa, fa, fa, H', ⟨Nat.le_refl _⟩, ⟨rpR HO227.out⟩, ⟨by (with_reducible repeat (first | refine blk_drewN ?_ _ | refine blk_drew ?_ | refine blk_alloc ?_ _)); exact BK224.out⟩, ⟨bl⟩⟩
  case round =>
   clear H'
   try clear p2
   try clear c4
   try clear c7
   obtain ⟨x7_1, x8_1, x9_1, x21_1, x225000_1, x225001_1, rfl, rfl, rfl, HA, HK1, HO_7, BK224, HB⟩ := hrel
   cases gk with
   | zero => exact absurd HA.out (by simp [impl_ReadTimes.l0])
   | succ k1 =>
    have H := HA.out
    clear HA
    simp only [impl_ReadTimes.l0] at H
    by_cases c8 : x21_1 < a1
    ·rw [if_pos c8] at H
     have c8b0 : decide (x21_1 < a1) = true := decide_eq_true c8
     clear c8
     by_cases c9 : x21_1 < 2
     ·rw [if_pos c9] at H
      have c9b0 : decide (x21_1 < 2) = true := decide_eq_true c9
      clear c9
      replace H := Option.bind_eq_some_iff.mp H
      obtain ⟨⟨t228, t229, t230⟩, A100, H⟩ := H
      replace H : (if x7_1.length < 17592186044416 then (impl_ReadTimes.l0 k1 a0 (x7_1 ++ [wrap64 (x9_1 + t228)]) t228 (wrap64 (x9_1 + t228)) a1 (wrap64 (x21_1 + 1)) t229 t230) else (none)) = some (r1, r2) := H
      have A10 := Aside0.mk A100
      clear A100
      by_cases c11 : x7_1.length < 17592186044416
      ·rw [if_pos c11] at H
       have LMc11 := Aside0.mk c11
       clear c11
       obtain ⟨y231, hy231⟩ : ∃ y_ : List Int, y_ = (x7_1 ++ [wrap64 (x9_1 + t228)]) := ⟨_, rfl⟩
       replace H : (impl_ReadTimes.l0 k1 a0 y231 t228 (wrap64 (x9_1 + t228)) a1 (wrap64 (x21_1 + 1)) t229 t230) = some (r1, r2) := by first | (rw [hy231]; with_reducible exact H) | (have H2_ := (Option.bind_some _ _).symm.trans H; rw [hy231]; with_reducible exact H2_) | (have H2_ := (Option.bind_some _ _).symm.trans H; with_reducible exact H2_) | with_reducible exact H | (rw [hy231]; exact H) | exact H
       have Ny231 := Aside0.mk hy231
       clear hy231
       have H' := Aside0.mk H
       clear H
       have HI224 := Aside0.mk (show IsS106 w _ _ _ _ from ⟨BK224.out, GW224.out⟩)
       go_wp2_with (first | ((with_reducible refine gC 97 rfl ?_); refine goesZ (some 32) rfl Try.func97 #[.pointer (some ⟨gb224, 0, none⟩)] ?_; (with_reducible refine (impl_reader_num.calls k1 gb224 x225000_1 x225001_1 t228 t229 t230 w _ ?side1 ?side2 A10.out).mono ?_); (case side1 => repeat (first | (with_reducible first | exact HI224.out | apply IsS106.alloc | apply IsS106.drewN | apply IsS106.drew | apply IsS106.set_0 | apply IsS106.set_1) | exact HI224.out)); (case side2 => repeat (first | (with_reducible first | exact HB.out | apply below_alloc | apply pw_below_drewN | apply below_drew1 | refine below_set ?_ (IsS106.ge HI224.out)) | exact HB.out)); rintro e w12 ⟨rfl, hi, hb, hk⟩; refine ⟨_, rfl, ?_⟩; replace HO_7 := Aside0.mk (Kd.R_mono (Kd.R_keep (IsS106.apart (show IsS106 w _ gb224 x225000_1 x225001_1 from by repeat (first | (with_reducible first | exact HI224.out | apply IsS106.alloc | apply IsS106.drewN | apply IsS106.drew | apply IsS106.set_0 | apply IsS106.set_1) | exact HI224.out)) (rpR HO_7.out) (by decide)) hk (fun _ h => h.2)) (fun _ h => h.1)); replace HB := Aside0.mk (hb); replace HI224 := Aside0.mk (hi); (try clear hb hk hi)) | ((with_reducible refine gate_builtin (b := .append) (xs := #[.tmp 36, .tmp 38]) rfl ?_); at_builtin; refine Kd.R_append (Kd.int .i64) (w0 := w) w.heap.size rfl (.tmp 36) (.tmp 38) 29 3 (.int .i64 0) 8 rfl Try.underlying29 info3 rfl (by decide) (by omega) u7 x7_1 (wrap64 (x9_1 + t228)) [.int .i64 (wrap64 (x9_1 + t228))] (fun _ => True) (fun _ => False) rfl rfl ?aP (fun _ hk => hk.elim) ?aF ?aO ?aB ?aS ?aL ?_; (case aP => exact rfl); (case aB => exact (by repeat (first | (with_reducible first | exact HB.out | apply below_alloc | apply pw_below_drewN | apply below_drew1 | refine below_set ?_ (IsS106.ge HI224.out)) | exact HB.out))); (case aF => exact (fun _ _ => trivial)); (case aO => exact (rpR HO_7.out)); (case aS => exact (below_size (by repeat (first | (with_reducible first | exact HB.out | apply below_alloc | apply pw_below_drewN | apply below_drew1 | refine below_set ?_ (IsS106.ge HI224.out)) | exact HB.out)))); (case aL => have := LMc11.out; omega); intro v232 w13 ho hb hg hat; rw [← Ny231.out] at ho; replace HI224 := Aside0.mk (IsS106.grown (by repeat (first | (with_reducible first | exact HI224.out | apply IsS106.alloc | apply IsS106.drewN | apply IsS106.drew | apply IsS106.set_0 | apply IsS106.set_1) | exact HI224.out)) hg (IsS106.own_ne HI224.out HO_7.out (by decide))); replace HB := Aside0.mk (hb); have HO233 := Aside0.mk (ho); clear HO_7; clear ho hb hg hat))
       go_roundg k1
       case measure => have := HK1.out; omega
       case rel => exact ⟨(y231), (t228), (wrap64 (x9_1 + t228)), (wrap64 (x21_1 + 1)), (t229), (t230), fa, fa, fa, H', ⟨by have := HK1.out; omega⟩, ⟨rpR HO233.out⟩, ⟨(show IsS106 w _ gb224 _ _ from by repeat (first | (with_reducible first | exact HI224.out | apply IsS106.alloc | apply IsS106.drewN | apply IsS106.drew | apply IsS106.set_0 | apply IsS106.set_1) | exact HI224.out)).1⟩, ⟨by repeat (first | (with_reducible first | exact HB.out | apply below_alloc | apply pw_below_drewN | apply below_drew1 | refine below_set ?_ (IsS106.ge HI224.out)) | exact HB.out)⟩⟩
      ·rw [if_neg c11] at H
       exact absurd H (by simp)
     ·rw [if_neg c9] at H
      have c9b0 : decide (x21_1 < 2) = false := decide_eq_false c9
      clear c9
      replace H := Option.bind_eq_some_iff.mp H
      obtain ⟨⟨t234, t235, t236⟩, A140, H⟩ := H
      replace H : (if x7_1.length < 17592186044416 then (impl_ReadTimes.l0 k1 a0 (x7_1 ++ [wrap64 (x9_1 + (wrap64 (x8_1 + t234)))]) (wrap64 (x8_1 + t234)) (wrap64 (x9_1 + (wrap64 (x8_1 + t234)))) a1 (wrap64 (x21_1 + 1)) t235 t236) else (none)) = some (r1, r2) := H
      have A14 := Aside0.mk A140
      clear A140
      by_cases c15 : x7_1.length < 17592186044416
      ·rw [if_pos c15] at H
       have LMc15 := Aside0.mk c15
       clear c15
       obtain ⟨y237, hy237⟩ : ∃ y_ : List Int, y_ = (x7_1 ++ [wrap64 (x9_1 + (wrap64 (x8_1 + t234)))]) := ⟨_, rfl⟩
       replace H : (impl_ReadTimes.l0 k1 a0 y237 (wrap64 (x8_1 + t234)) (wrap64 (x9_1 + (wrap64 (x8_1 + t234)))) a1 (wrap64 (x21_1 + 1)) t235 t236) = some (r1, r2) := by first | (rw [hy237]; with_reducible exact H) | (have H2_ := (Option.bind_some _ _).symm.trans H; rw [hy237]; with_reducible exact H2_) | (have H2_ := (Option.bind_some _ _).symm.trans H; with_reducible exact H2_) | with_reducible exact H | (rw [hy237]; exact H) | exact H
       have Ny237 := Aside0.mk hy237
       clear hy237
       have H' := Aside0.mk H
       clear H
       have HI224 := Aside0.mk (show IsS106 w _ _ _ _ from ⟨BK224.out, GW224.out⟩)
       go_wp2_with (first | ((with_reducible refine gC 95 rfl ?_); refine goesZ (some 26) rfl Try.func95 #[.pointer (some ⟨gb224, 0, none⟩)] ?_; (with_reducible refine (impl_reader_zag.calls k1 gb224 x225000_1 x225001_1 t234 t235 t236 w _ ?side1 ?side2 A14.out).mono ?_); (case side1 => repeat (first | (with_reducible first | exact HI224.out | apply IsS106.alloc | apply IsS106.drewN | apply IsS106.drew | apply IsS106.set_0 | apply IsS106.set_1) | exact HI224.out)); (case side2 => repeat (first | (with_reducible first | exact HB.out | apply below_alloc | apply pw_below_drewN | apply below_drew1 | refine below_set ?_ (IsS106.ge HI224.out)) | exact HB.out)); rintro e w16 ⟨rfl, hi, hb, hk⟩; refine ⟨_, rfl, ?_⟩; replace HO_7 := Aside0.mk (Kd.R_mono (Kd.R_keep (IsS106.apart (show IsS106 w _ gb224 x225000_1 x225001_1 from by repeat (first | (with_reducible first | exact HI224.out | apply IsS106.alloc | apply IsS106.drewN | apply IsS106.drew | apply IsS106.set_0 | apply IsS106.set_1) | exact HI224.out)) (rpR HO_7.out) (by decide)) hk (fun _ h => h.2)) (fun _ h => h.1)); replace HB := Aside0.mk (hb); replace HI224 := Aside0.mk (hi); (try clear hb hk hi)) | ((with_reducible refine gate_builtin (b := .append) (xs := #[.tmp 36, .tmp 38]) rfl ?_); at_builtin; refine Kd.R_append (Kd.int .i64) (w0 := w) w.heap.size rfl (.tmp 36) (.tmp 38) 29 3 (.int .i64 0) 8 rfl Try.underlying29 info3 rfl (by decide) (by omega) u7 x7_1 (wrap64 (x9_1 + (wrap64 (x8_1 + t234)))) [.int .i64 (wrap64 (x9_1 + (wrap64 (x8_1 + t234))))] (fun _ => True) (fun _ => False) rfl rfl ?aP (fun _ hk => hk.elim) ?aF ?aO ?aB ?aS ?aL ?_; (case aP => exact rfl); (case aB => exact (by repeat (first | (with_reducible first | exact HB.out | apply below_alloc | apply pw_below_drewN | apply below_drew1 | refine below_set ?_ (IsS106.ge HI224.out)) | exact HB.out))); (case aF => exact (fun _ _ => trivial)); (case aO => exact (rpR HO_7.out)); (case aS => exact (below_size (by repeat (first | (with_reducible first | exact HB.out | apply below_alloc | apply pw_below_drewN | apply below_drew1 | refine below_set ?_ (IsS106.ge HI224.out)) | exact HB.out)))); (case aL => have := LMc15.out; omega); intro v238 w17 ho hb hg hat; rw [← Ny237.out] at ho; replace HI224 := Aside0.mk (IsS106.grown (by repeat (first | (with_reducible first | exact HI224.out | apply IsS106.alloc | apply IsS106.drewN | apply IsS106.drew | apply IsS106.set_0 | apply IsS106.set_1) | exact HI224.out)) hg (IsS106.own_ne HI224.out HO_7.out (by decide))); replace HB := Aside0.mk (hb); have HO239 := Aside0.mk (ho); clear HO_7; clear ho hb hg hat))
       go_roundg k1
       case measure => have := HK1.out; omega
       case rel => exact ⟨(y237), (wrap64 (x8_1 + t234)), (wrap64 (x9_1 + (wrap64 (x8_1 + t234)))), (wrap64 (x21_1 + 1)), (t235), (t236), fa, fa, fa, H', ⟨by have := HK1.out; omega⟩, ⟨rpR HO239.out⟩, ⟨(show IsS106 w _ gb224 _ _ from by repeat (first | (with_reducible first | exact HI224.out | apply IsS106.alloc | apply IsS106.drewN | apply IsS106.drew | apply IsS106.set_0 | apply IsS106.set_1) | exact HI224.out)).1⟩, ⟨by repeat (first | (with_reducible first | exact HB.out | apply below_alloc | apply pw_below_drewN | apply below_drew1 | refine below_set ?_ (IsS106.ge HI224.out)) | exact HB.out)⟩⟩
      ·rw [if_neg c15] at H
       exact absurd H (by simp)
    ·rw [if_neg c8] at H
     have c8b0 : decide (x21_1 < a1) = false := decide_eq_false c8
     clear c8
     obtain ⟨t240, A18, H⟩ := bd H
     replace H := Option.bind_eq_some_iff.mp H
     obtain ⟨⟨t241, t242⟩, A190, H⟩ := H
     replace H : (if x225001_1 = true then (if t242 = true then (some (x7_1, t241)) else (some (([] : List Int), 0))) else (some (([] : List Int), 0))) = some (r1, r2) := H
     have A19 := Aside0.mk A190
     clear A190
     by_cases c20 : x225001_1 = true
     ·subst c20
      replace H := iT H
      by_cases c21 : t242 = true
      ·subst c21
       replace H := iT H
       simp only [Option.some.injEq, Prod.mk.injEq] at H
       obtain ⟨rfl, rfl⟩ := H
       obtain ⟨Ao22, co22, eo22⟩ := Kd.R_slice HO_7.out
       subst eo22
       go_wp2_with (first | ((with_reducible refine gC 25 rfl ?_); refine goesZ (some 44) rfl Try.func25 #[.slice Ao22 x7_1.length co22] ?_; (with_reducible refine (impl_ShowTimes.calls k1 _ _ x7_1 t240 _ ?side1 ?side2 A18.out).mono ?_); (case side1 => exact ca ((Kd.R_reads' HO_7.out).2.2)); (case side2 => exact (Kd.R_reads' HO_7.out).2.1); rintro e w23 ⟨rfl, hb⟩; refine ⟨_, rfl, ?_⟩; replace HO_7 := Aside0.mk (Kd.R_below (rpR HO_7.out) hb); replace BK224 := bv BK224 hb; replace HB := bs (w := w) hb; (try clear hb)) | ((with_reducible refine gC 96 rfl ?_); refine goesZ (some 45) rfl Try.func96 #[.string a0, .string t240] ?_; (with_reducible refine (impl_began.calls a0 t240 t241 true _ A19.out).mono ?_); rintro e w' ⟨rfl, ⟨nd, rfl⟩⟩; refine ⟨_, rfl, ?_⟩; obtain ⟨Z24_0, Z24_1, Y24_0, Y24_1⟩ := cf2 BK224))
       go_ret2
       exact ⟨_, fe, rpR HO_7.out, bl⟩
      ·replace c21 := Bool.eq_false_iff.mpr c21
       subst c21
       replace H := iF H
       simp only [Option.some.injEq, Prod.mk.injEq] at H
       obtain ⟨rfl, rfl⟩ := H
       obtain ⟨Ao25, co25, eo25⟩ := Kd.R_slice HO_7.out
       subst eo25
       go_wp2_with (first | ((with_reducible refine gC 25 rfl ?_); refine goesZ (some 44) rfl Try.func25 #[.slice Ao25 x7_1.length co25] ?_; (with_reducible refine (impl_ShowTimes.calls k1 _ _ x7_1 t240 _ ?side1 ?side2 A18.out).mono ?_); (case side1 => exact ca ((Kd.R_reads' HO_7.out).2.2)); (case side2 => exact (Kd.R_reads' HO_7.out).2.1); rintro e w26 ⟨rfl, hb⟩; refine ⟨_, rfl, ?_⟩; replace HO_7 := Aside0.mk (Kd.R_below (rpR HO_7.out) hb); replace BK224 := bv BK224 hb; replace HB := bs (w := w) hb; (try clear hb)) | ((with_reducible refine gC 96 rfl ?_); refine goesZ (some 45) rfl Try.func96 #[.string a0, .string t240] ?_; (with_reducible refine (impl_began.calls a0 t240 t241 false _ A19.out).mono ?_); rintro e w' ⟨rfl, ⟨nd, rfl⟩⟩; refine ⟨_, rfl, ?_⟩; obtain ⟨Z27_0, Z27_1, Y27_0, Y27_1⟩ := cf2 BK224))
       go_ret2
       exact ⟨_, fe, by first | exact Kd.R_nil _ _ _ _ _ | exact Kd.N_nil _ _ _ _ _ | exact Kd.V_nil _ _ _ _ _ | exact Kd.Q_nil _ _ _ _ _ | exact Kd.S_nil _ _ _ _ _, bl⟩
     ·replace c20 := Bool.eq_false_iff.mpr c20
      subst c20
      replace H := iF H
      simp only [Option.some.injEq, Prod.mk.injEq] at H
      obtain ⟨rfl, rfl⟩ := H
      obtain ⟨Ao28, co28, eo28⟩ := Kd.R_slice HO_7.out
      subst eo28
      go_wp2_with (first | ((with_reducible refine gC 25 rfl ?_); refine goesZ (some 44) rfl Try.func25 #[.slice Ao28 x7_1.length co28] ?_; (with_reducible refine (impl_ShowTimes.calls k1 _ _ x7_1 t240 _ ?side1 ?side2 A18.out).mono ?_); (case side1 => exact ca ((Kd.R_reads' HO_7.out).2.2)); (case side2 => exact (Kd.R_reads' HO_7.out).2.1); rintro e w29 ⟨rfl, hb⟩; refine ⟨_, rfl, ?_⟩; replace HO_7 := Aside0.mk (Kd.R_below (rpR HO_7.out) hb); replace BK224 := bv BK224 hb; replace HB := bs (w := w) hb; (try clear hb)) | ((with_reducible refine gC 96 rfl ?_); refine goesZ (some 45) rfl Try.func96 #[.string a0, .string t240] ?_; (with_reducible refine (impl_began.calls a0 t240 t241 t242 _ A19.out).mono ?_); rintro e w' ⟨rfl, ⟨nd, rfl⟩⟩; refine ⟨_, rfl, ?_⟩; obtain ⟨Z30_0, Z30_1, Y30_0, Y30_1⟩ := cf2 BK224))
      go_ret2
      exact ⟨_, fe, by first | exact Kd.R_nil _ _ _ _ _ | exact Kd.N_nil _ _ _ _ _ | exact Kd.V_nil _ _ _ _ _ | exact Kd.Q_nil _ _ _ _ _ | exact Kd.S_nil _ _ _ _ _, bl⟩
 ·replace c4 := Bool.eq_false_iff.mpr c4
  subst c4
  replace H := iF H
  simp only [Option.some.injEq, Prod.mk.injEq] at H
  obtain ⟨rfl, rfl⟩ := H
  go_enter Try.func47, Try.ntmps47
  go_wp2_with (first | ((with_reducible refine gC 78 rfl ?_); refine goesZ (some 14) rfl Try.func78 #[.int .i64 a1, .int .i64 1, .int .i64 60] ?_; (with_reducible refine (impl_from.calls a1 1 60 false _ A3.out).mono ?_); rintro e w' ⟨rfl, ⟨nd, rfl⟩⟩; refine ⟨_, rfl, ?_⟩))
  go_ret2
  exact ⟨_, fe, by first | exact Kd.R_nil _ _ _ _ _ | exact Kd.N_nil _ _ _ _ _ | exact Kd.V_nil _ _ _ _ _ | exact Kd.Q_nil _ _ _ _ _ | exact Kd.S_nil _ _ _ _ _, bl⟩

/-! ### spec_l1Once: function 91 -/
def spec_l1Once.f (s0_0 : List Int) (s0_1 : Int) (s0_2 : Int) (a1 : Int) : Option (Bool × Int × Int) := (spec_l1Below.f s0_0 s0_1 s0_2 a1).bind fun bt243 => (some ((bt243.1 == 0), bt243.2.1, bt243.2.2))
set_option maxHeartbeats 8000000 in
set_option maxRecDepth 100000 in
theorem spec_l1Once.calls (g : Nat) (s0_0 : List Int) (s0_1 : Int) (s0_2 : Int) (a1 : Int) (r1 : Bool) (r2 : Int) (r3 : Int) (w0 w : World) (hI : IsS136 w0 w g s0_0 s0_1 s0_2) (hB : Below w0.heap.size w0 w) (h : spec_l1Once.f s0_0 s0_1 s0_2 a1 = some (r1, r2, r3)) :
 Calls Try.prog 91 #[.pointer (some ⟨g, 0, none⟩), .int .i64 a1] w fun e w' => e = .returned (.bool r1) ∧ IsS136 w0 w' g s0_0 r2 r3 ∧ Below w0.heap.size w0 w' ∧ KeepBut w w' g none := by
 have HI0 := Aside0.mk hI
 have HK := Aside0.mk (KeepBut.refl w g none)
 have HL := Aside0.mk hB.size
 clear hI
 have HW0 := Aside0.mk hB.size
 have HB := Aside0.mk hB
 clear hB
 have H : ((spec_l1Below.f s0_0 s0_1 s0_2 a1).bind fun bt243 => (some ((bt243.1 == 0), bt243.2.1, bt243.2.2))) = some (r1, r2, r3) := h
 clear h
 replace H := Option.bind_eq_some_iff.mp H
 obtain ⟨⟨t243, t244, t245⟩, A30, H⟩ := H
 replace H : (some ((t243 == 0), t244, t245)) = some (r1, r2, r3) := H
 have A3 := Aside0.mk A30
 clear A30
 simp only [Option.some.injEq, Prod.mk.injEq] at H
 obtain ⟨rfl, rfl, rfl⟩ := H
 go_enter Try.func91, Try.ntmps91
 go_wp2_with (first | ((with_reducible refine gC 102 rfl ?_); refine goesZ (some 7) rfl Try.func102 #[.pointer (some ⟨g, 0, none⟩), .int .i64 a1] ?_; (with_reducible refine (spec_l1Below.calls g s0_0 s0_1 s0_2 a1 t243 t244 t245 w0 _ ?side1 ?side2 A3.out).mono ?_); (case side1 => repeat (first | (with_reducible first | exact HI0.out | apply IsS136.alloc | apply IsS136.drewN | apply IsS136.drew | apply IsS136.set_1 | apply IsS136.set_2) | exact HI0.out)); (case side2 => repeat (first | (with_reducible first | exact HB.out | apply below_alloc | apply pw_below_drewN | apply below_drew1 | refine below_set ?_ (IsS136.ge HI0.out)) | exact HB.out)); rintro e w4 ⟨rfl, hi, hb, hk⟩; refine ⟨_, rfl, ?_⟩; replace HK := Aside0.mk (KeepBut.trans (by repeat (first | (with_reducible first | exact HK.out | apply KeepBut.set_ | apply keep_drewN | apply keep_drew | apply keep_alloc) | exact HK.out)) hk (.inl rfl)); replace HB := Aside0.mk (hb); replace HI0 := Aside0.mk (hi); (try clear hb hk hi)))
 go_ret
 exact ⟨fe, by repeat (first | (with_reducible first | exact HI0.out | apply IsS136.alloc | apply IsS136.drewN | apply IsS136.drew | apply IsS136.set_1 | apply IsS136.set_2) | exact HI0.out), by repeat (first | (with_reducible first | exact HB.out | apply below_alloc | apply pw_below_drewN | apply below_drew1 | refine below_set ?_ (IsS136.ge HI0.out)) | exact HB.out), by repeat (first | (with_reducible first | exact HK.out | apply KeepBut.set_ | apply keep_drewN | apply keep_drew | apply keep_alloc) | exact HK.out)⟩

/-! ### spec_l1PickInt: function 101 -/
def spec_l1PickInt.f (s0_0 : List Int) (s0_1 : Int) (s0_2 : Int) (l1 : List Int) : Option (Int × Int × Int) := (spec_l1Below.f s0_0 s0_1 s0_2 (l1.length : Int)).bind fun bt246 => (if 0 ≤ bt246.1 then (if bt246.1 < (l1.length : Int) then (some (rd l1 bt246.1, bt246.2.1, bt246.2.2)) else (none)) else (none))
set_option maxHeartbeats 8000000 in
set_option maxRecDepth 100000 in
theorem spec_l1PickInt.calls (g : Nat) (s0_0 : List Int) (s0_1 : Int) (s0_2 : Int) (A1 : Option Addr) (c1 : Nat) (l1 : List Int) (r1 : Int) (r2 : Int) (r3 : Int) (w0 w : World) (hI : IsS136 w0 w g s0_0 s0_1 s0_2) (hB : Below w0.heap.size w0 w) (hr1 : Kd.C (Kd.int .i64) w A1 l1.length l1) (hc1 : l1.length ≤ c1) (hf1 : ∀ ad, A1 = some ad → 0 < l1.length → ad.block ≠ g) (h : spec_l1PickInt.f s0_0 s0_1 s0_2 l1 = some (r1, r2, r3)) :
 Calls Try.prog 101 #[.pointer (some ⟨g, 0, none⟩), .slice A1 l1.length c1] w fun e w' => e = .returned (.int .i64 r1) ∧ IsS136 w0 w' g s0_0 r2 r3 ∧ Below w0.heap.size w0 w' ∧ KeepBut w w' g none := by
 have HR1 := Aside0.mk hr1
 have HC1 := Aside0.mk hc1
 clear hr1 hc1
 have HI0 := Aside0.mk hI
 have HK := Aside0.mk (KeepBut.refl w g none)
 have HL := Aside0.mk hB.size
 clear hI
 have HW0 := Aside0.mk hB.size
 have HB := Aside0.mk hB
 clear hB
 have H : ((spec_l1Below.f s0_0 s0_1 s0_2 (l1.length : Int)).bind fun bt246 => (if 0 ≤ bt246.1 then (if bt246.1 < (l1.length : Int) then (some (rd l1 bt246.1, bt246.2.1, bt246.2.2)) else (none)) else (none))) = some (r1, r2, r3) := h
 clear h
 replace H := Option.bind_eq_some_iff.mp H
 obtain ⟨⟨t246, t247, t248⟩, A30, H⟩ := H
 replace H : (if 0 ≤ t246 then (if t246 < (l1.length : Int) then (some (rd l1 t246, t247, t248)) else (none)) else (none)) = some (r1, r2, r3) := H
 have A3 := Aside0.mk A30
 clear A30
 by_cases c4 : 0 ≤ t246
 ·rw [if_pos c4] at H
  have c4b0 : decide (0 ≤ t246) = true := decide_eq_true c4
  clear c4
  by_cases c5 : t246 < (l1.length : Int)
  ·rw [if_pos c5] at H
   have c5b0 : decide (t246 < (l1.length : Int)) = true := decide_eq_true c5
   clear c5
   simp only [Option.some.injEq, Prod.mk.injEq] at H
   obtain ⟨rfl, rfl, rfl⟩ := H
   go_enter Try.func101, Try.ntmps101
   go_wp2_with (first | ((with_reducible refine gC 102 rfl ?_); refine goesZ (some 9) rfl Try.func102 #[.pointer (some ⟨g, 0, none⟩), .int .i64 (l1.length : Int)] ?_; (with_reducible refine (spec_l1Below.calls g s0_0 s0_1 s0_2 (l1.length : Int) t246 t247 t248 w0 _ ?side1 ?side2 A3.out).mono ?_); (case side1 => repeat (first | (with_reducible first | exact HI0.out | apply IsS136.alloc | apply IsS136.drewN | apply IsS136.drew | apply IsS136.set_1 | apply IsS136.set_2) | exact HI0.out)); (case side2 => repeat (first | (with_reducible first | exact HB.out | apply below_alloc | apply pw_below_drewN | apply below_drew1 | refine below_set ?_ (IsS136.ge HI0.out)) | exact HB.out)); rintro e w6 ⟨rfl, hi, hb, hk⟩; refine ⟨_, rfl, ?_⟩; replace HK := Aside0.mk (KeepBut.trans (by repeat (first | (with_reducible first | exact HK.out | apply KeepBut.set_ | apply keep_drewN | apply keep_drew | apply keep_alloc) | exact HK.out)) hk (.inl rfl)); replace HB := Aside0.mk (hb); replace HI0 := Aside0.mk (hi); (try clear hb hk hi); have p249 : 0 ≤ (t246 : Int) := of_decide_eq_true am; have q249 : t246 < (l1.length : Int) := of_decide_eq_true am; obtain ⟨ad249, e249, hx249_0⟩ := Kd.at_int HR1.out t246 p249 q249; cases e249; replace hx249_0 := keep_cell HK.out hx249_0 (by first | (rw [add_block]; exact hf1 _ rfl (by omega)) | exact hf1 _ rfl (by omega) | exact hf1 ad249 rfl (by omega)); replace p249 := eq_true p249; replace q249 := eq_true q249))
   go_ret
   exact ⟨fe, by repeat (first | (with_reducible first | exact HI0.out | apply IsS136.alloc | apply IsS136.drewN | apply IsS136.drew | apply IsS136.set_1 | apply IsS136.set_2) | exact HI0.out), by repeat (first | (with_reducible first | exact HB.out | apply below_alloc | apply pw_below_drewN | apply below_drew1 | refine below_set ?_ (IsS136.ge HI0.out)) | exact HB.out), by repeat (first | (with_reducible first | exact HK.out | apply KeepBut.set_ | apply keep_drewN | apply keep_drew | apply keep_alloc) | exact HK.out)⟩
  ·rw [if_neg c5] at H
   exact absurd H (by simp)
 ·rw [if_neg c4] at H
  exact absurd H (by simp)

end Go.Proofs.Ytfmddjbekophnaa.PFnBits
