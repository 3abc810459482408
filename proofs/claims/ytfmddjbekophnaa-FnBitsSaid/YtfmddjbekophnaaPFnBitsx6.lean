-- PRINTED by print.py (a twelfth state) out of the translation. Not trusted: Lean checks it.
import Derived.Test.YtfmddjbekophnaaPFnBitsx0
import Derived.Test.YtfmddjbekophnaaPFnBitsx1
import Derived.Test.YtfmddjbekophnaaPFnBitsx2
import Derived.Test.YtfmddjbekophnaaPFnBitsx5
import Derived.Test.YtfmddjbekophnaaZip
namespace Go.Proofs.Ytfmddjbekophnaa.PFnBits
open Go.RowKit Go.Proofs.YtfmddjbekophnaaW.PrintWords Go.Proofs.YtfmddjbekophnaaW.PrintLast Go.Proofs.YtfmddjbekophnaaW.PrintMore Go.Proofs.Ytfmddjbekophnaa.Zip
attribute [local go_sem] max2_int min2_int max_two min_two max_three min_three max_four min_four   -- for this text's walks alone
set_option linter.unusedVariables false
set_option linter.unusedSimpArgs false

/-! ### spec_DrawShowValues: function 50 -/
def spec_DrawShowValues.f (k : Nat) (l0 : List Int) : Option (List Int) := (spec_l1New.f k l0).bind fun bt335 => ((spec_l1Size.f l0 20).bind fun t339 => ((spec_l7Ints.f k bt335.1 bt335.2.1 bt335.2.2 t339).bind fun bt340 => (some bt340.1)))
theorem spec_DrawShowValues.mono : ∀ a0 k, LeO (spec_DrawShowValues.f k a0) (spec_DrawShowValues.f (k + 1) a0) := by
 intro a0 k
 unfold spec_DrawShowValues.f
 repeat' first
  | (with_reducible exact spec_l1New.mono _ _)
  | (with_reducible exact spec_l7Ints.mono _ _ _ _ _)
  | (with_reducible exact LeO.refl _)
  | (with_reducible exact LeO.none _)
  | (with_reducible refine LeO.ite ?_ ?_)
  | (with_reducible refine LeO.bind ?_ (fun _ => ?_))
  | exact spec_l1New.mono _ _
  | exact spec_l7Ints.mono _ _ _ _ _
  | exact LeO.none _
  | refine LeO.ite ?_ ?_
  | refine LeO.bind ?_ (fun _ => ?_)
set_option maxHeartbeats 8000000 in
set_option maxRecDepth 100000 in
theorem spec_DrawShowValues.calls (k : Nat) (A0 : Option Addr) (c0 : Nat) (l0 : List Int) (r : List Int) (w : World) (hr0 : Kd.C (Kd.int .u8) w A0 l0.length l0) (hc0 : l0.length ≤ c0) (h : spec_DrawShowValues.f k l0 = some r) :
 Calls Try.prog 50 #[.slice A0 l0.length c0] w fun e w' => ∃ v0_ : Value, e = .returned (v0_) ∧ Kd.R (Kd.int .i64) 3 w' w.heap.size (fun _ => True) v0_ r ∧ Below w.heap.size w w' := by
 have HR0 := Aside0.mk hr0
 have HC0 := Aside0.mk hc0
 clear hr0 hc0
 have HB := Aside0.mk (Below.refl w.heap.size w)
 have H : ((spec_l1New.f k l0).bind fun bt335 => ((spec_l1Size.f l0 20).bind fun t339 => ((spec_l7Ints.f k bt335.1 bt335.2.1 bt335.2.2 t339).bind fun bt340 => (some bt340.1)))) = some r := h
 clear h
 replace H := Option.bind_eq_some_iff.mp H
 obtain ⟨⟨t335, t336, t337⟩, A20, H⟩ := H
 replace H : ((spec_l1Size.f l0 20).bind fun t339 => ((spec_l7Ints.f k t335 t336 t337 t339).bind fun bt340 => (some bt340.1))) = some r := H
 have A2 := Aside0.mk A20
 clear A20
 obtain ⟨t339, A3, H⟩ := bd H
 replace H := Option.bind_eq_some_iff.mp H
 obtain ⟨⟨t340, t343, t344⟩, A40, H⟩ := H
 replace H : (some t340) = some r := H
 have A4 := Aside0.mk A40
 clear A40
 obtain rfl := Option.some.inj H
 go_enter Try.func50, Try.ntmps50
 go_wp2_with (first | ((with_reducible refine gC 87 rfl ?_); refine goesZ (some 5) rfl Try.func87 #[.slice A0 l0.length c0] ?_; (with_reducible refine (spec_l1New.calls k _ _ l0 t335 t336 t337 w _ ?side1 ?side2 ?side3 A2.out).mono ?_); (case side1 => repeat (first | (with_reducible first | exact HB.out | apply below_alloc | apply pw_below_drewN | apply below_drew1) | exact HB.out)); (case side2 => exact HR0.out); (case side3 => exact HC0.out); rintro e w5 ⟨g338, rfl, hi, hb, hb2⟩; refine ⟨_, rfl, ?_⟩; replace HB := Aside0.mk (hb); have HI338 := Aside0.mk (hi); (try clear hb hb2 hi)) | ((with_reducible refine gC 99 rfl ?_); refine goesZ (some 8) rfl Try.func99 #[.slice A0 l0.length c0, .int .i64 20] ?_; (with_reducible refine (spec_l1Size.calls _ _ l0 20 t339 _ ?side1 ?side2 A3.out).mono ?_); (case side1 => exact ca (Kd.C_below HR0.out HB.out)); (case side2 => exact HC0.out); rintro e w' ⟨rfl, ⟨nd, rfl⟩⟩; refine ⟨_, rfl, ?_⟩) | ((with_reducible refine gC 100 rfl ?_); refine goesZ (some 9) rfl Try.func100 #[.pointer (some ⟨g338, 0, none⟩), .int .i64 t339] ?_; (with_reducible refine (spec_l7Ints.calls k g338 t335 t336 t337 t339 t340 t343 t344 w _ ?side1 ?side2 A4.out).mono ?_); (case side1 => repeat (first | (with_reducible first | exact HI338.out | apply IsS136.alloc | apply IsS136.drewN | apply IsS136.drew | apply IsS136.set_1 | apply IsS136.set_2) | exact HI338.out)); (case side2 => repeat (first | (with_reducible first | exact HB.out | apply below_alloc | apply pw_below_drewN | apply below_drew1 | refine below_set ?_ (IsS136.ge HI338.out)) | exact HB.out)); rintro e w6 ⟨v341, rfl, ho0, hi, hb, hk⟩; refine ⟨_, rfl, ?_⟩; have HO342 := Aside0.mk (Kd.R_lower ho0 (below_size (by repeat (first | (with_reducible first | exact HB.out | apply below_alloc | apply pw_below_drewN | apply below_drew1 | refine below_set ?_ (IsS136.ge HI338.out)) | exact HB.out)))); replace HB := Aside0.mk (hb); replace HI338 := Aside0.mk (hi); (try clear hb hk hi ho0)))
 go_ret
 exact ⟨_, fe, rpR HO342.out, by repeat (first | (with_reducible first | exact HB.out | apply below_alloc | apply pw_below_drewN | apply below_drew1 | refine below_set ?_ (IsS136.ge HI338.out)) | exact HB.out)⟩

/-! ### spec_l7Rise: function 84 -/
def spec_l7Rise.l0 : Nat → List Int → Int → Option (Bool)
 | 0, _, _ => none
 | k + 1, x0, x3 => if x3 < (x0.length : Int) then (if 0 ≤ x3 then ((spec_l1In.f (rd x0 x3) 0 1099511627776).bind fun t347 => (if t347 = true then (if x3 > 0 then (if 0 ≤ (wrap64 (x3 - 1)) then (if (wrap64 (x3 - 1)) < (x0.length : Int) then (if (rd x0 (wrap64 (x3 - 1))) ≥ (rd x0 x3) then (some false) else (spec_l7Rise.l0 k x0 (wrap64 (x3 + 1)))) else (none)) else (none)) else (spec_l7Rise.l0 k x0 (wrap64 (x3 + 1)))) else (some false))) else (none)) else (some true)
def spec_l7Rise.f (k : Nat) (l0 : List Int) : Option (Bool) := (spec_l1In.f (l0.length : Int) 1 60).bind fun t345 => (if t345 = true then (spec_l7Rise.l0 k l0 0) else (some false))
theorem spec_l7Rise.mono_l : ∀ k, (∀ y0 y1, LeO (spec_l7Rise.l0 k y0 y1) (spec_l7Rise.l0 (k + 1) y0 y1))
 | 0 => fun _ _ r h => by simp [spec_l7Rise.l0] at h
 | k + 1 => by
  have ih0 := spec_l7Rise.mono_l k
  ·intro y0 y1
   unfold spec_l7Rise.l0
   repeat' first
   | (with_reducible exact ih0 _ _)
   | (with_reducible exact LeO.refl _)
   | (with_reducible exact LeO.none _)
   | (with_reducible refine LeO.ite ?_ ?_)
   | (with_reducible refine LeO.bind ?_ (fun _ => ?_))
   | exact ih0 _ _
   | exact LeO.none _
   | refine LeO.ite ?_ ?_
   | refine LeO.bind ?_ (fun _ => ?_)
theorem spec_l7Rise.mono : ∀ a0 k, LeO (spec_l7Rise.f k a0) (spec_l7Rise.f (k + 1) a0) := by
 intro a0 k
 have ih0 := spec_l7Rise.mono_l k
 unfold spec_l7Rise.f
 repeat' first
  | (with_reducible exact ih0 _ _)
  | (with_reducible exact LeO.refl _)
  | (with_reducible exact LeO.none _)
  | (with_reducible refine LeO.ite ?_ ?_)
  | (with_reducible refine LeO.bind ?_ (fun _ => ?_))
  | exact ih0 _ _
  | exact LeO.none _
  | refine LeO.ite ?_ ?_
  | refine LeO.bind ?_ (fun _ => ?_)
set_option maxHeartbeats 8000000 in
set_option maxRecDepth 100000 in
theorem spec_l7Rise.calls (k : Nat) (A0 : Option Addr) (c0 : Nat) (l0 : List Int) (r : Bool) (w : World) (hr0 : Kd.C (Kd.int .i64) w A0 l0.length l0) (hc0 : l0.length ≤ c0) (h : spec_l7Rise.f k l0 = some r) :
 Calls Try.prog 84 #[.slice A0 l0.length c0] w fun e w' => e = .returned (.bool r) ∧ Drawn0 w w' := by
 have HR0 := Aside0.mk hr0
 have HC0 := Aside0.mk hc0
 clear hr0 hc0
 have H : ((spec_l1In.f (l0.length : Int) 1 60).bind fun t345 => (if t345 = true then (spec_l7Rise.l0 k l0 0) else (some false))) = some r := h
 clear h
 obtain ⟨t345, A2, H⟩ := bd H
 by_cases c3 : t345 = true
 ·subst c3
  replace H := iT H
  have H' := Aside0.mk H
  clear H
  go_enter Try.func84, Try.ntmps84
  go_wp2_with (first | (go_at_call 76; (with_reducible refine (spec_l1In.calls (l0.length : Int) 1 60 true _ A2.out).mono ?_); rintro e w' ⟨rfl, ⟨nd, rfl⟩⟩; (try first | exact ⟨rfl, _, World.drewN_drewN _ _ _⟩ | exact ⟨rfl, _, Eq.trans (World.drewN_drewN _ _ _) (congrArg (World.drewN _) (Nat.add_assoc _ _ _))⟩)))
  repeat (go_quiet (first | (go_at_call 76; (with_reducible refine (spec_l1In.calls (l0.length : Int) 1 60 true _ A2.out).mono ?_); rintro e w' ⟨rfl, ⟨nd, rfl⟩⟩; (try first | exact ⟨rfl, _, World.drewN_drewN _ _ _⟩ | exact ⟨rfl, _, Eq.trans (World.drewN_drewN _ _ _) (congrArg (World.drewN _) (Nat.add_assoc _ _ _))⟩))); try go_wp2_with (first | (go_at_call 76; (with_reducible refine (spec_l1In.calls (l0.length : Int) 1 60 true _ A2.out).mono ?_); rintro e w' ⟨rfl, ⟨nd, rfl⟩⟩; (try first | exact ⟨rfl, _, World.drewN_drewN _ _ _⟩ | exact ⟨rfl, _, Eq.trans (World.drewN_drewN _ _ _) (congrArg (World.drewN _) (Nat.add_assoc _ _ _))⟩))))
  go_loopg [3] k (fun kq v3 w' => ∃ (x3_1 : Int), v3 = .int .i64 x3_1 ∧ Aside0 (spec_l7Rise.l0 kq l0 x3_1 = some r) ∧ Aside0 (kq ≤ k) ∧ Drawn0 w w')
  case atStart => exact ⟨(0), fa, H', ⟨Nat.le_refl _⟩, fd⟩
  case round =>
   clear H'
   try clear p2
   try clear c3
   obtain ⟨x3_1, rfl, HA, HK1, ⟨m1, rfl⟩⟩ := hrel
   cases gk with
   | zero => exact absurd HA.out (by simp [spec_l7Rise.l0])
   | succ k1 =>
    have H := HA.out
    clear HA
    simp only [spec_l7Rise.l0] at H
    by_cases c4 : x3_1 < (l0.length : Int)
    ·rw [if_pos c4] at H
     have c4b0 : decide (x3_1 < (l0.length : Int)) = true := decide_eq_true c4
     clear c4
     by_cases c5 : 0 ≤ x3_1
     ·rw [if_pos c5] at H
      have c5b0 : decide (0 ≤ x3_1) = true := decide_eq_true c5
      clear c5
      obtain ⟨t347, A6, H⟩ := bd H
      by_cases c7 : t347 = true
      ·subst c7
       replace H := iT H
       by_cases c8 : x3_1 > 0
       ·rw [if_pos c8] at H
        have c8b0 : decide (0 < x3_1) = true := decide_eq_true c8
        clear c8
        obtain ⟨ji9, hji9⟩ : ∃ j_ : Int, (wrap64 (x3_1 - 1)) = j_ := ⟨_, rfl⟩
        replace H : (if 0 ≤ (ji9) then (if (ji9) < (l0.length : Int) then (if (rd l0 (ji9)) ≥ (rd l0 x3_1) then (some false) else (spec_l7Rise.l0 k1 l0 (wrap64 (x3_1 + 1)))) else (none)) else (none)) = some r := by first | (rw [hji9] at H; exact H) | (simp only [hji9] at H ⊢; exact H)
        (try rw [hji9] at A6)
        have hji9w : (IntKind.i64.wrap (x3_1 - 1)) = ji9 := (i64_w _).trans hji9
        by_cases c10 : 0 ≤ (ji9)
        ·rw [if_pos c10] at H
         have c10b0 : decide (0 ≤ (ji9)) = true := decide_eq_true c10
         clear c10
         by_cases c11 : (ji9) < (l0.length : Int)
         ·rw [if_pos c11] at H
          have c11b0 : decide ((ji9) < (l0.length : Int)) = true := decide_eq_true c11
          clear c11
          by_cases c12 : (rd l0 (ji9)) ≥ (rd l0 x3_1)
          ·rw [if_pos c12] at H
           have c12b0 : decide ((rd l0 x3_1) ≤ (rd l0 (ji9))) = true := decide_eq_true c12
           clear c12
           obtain rfl := Option.some.inj H
           have p346 : 0 ≤ (x3_1 : Int) := of_decide_eq_true am
           have q346 : x3_1 < (l0.length : Int) := of_decide_eq_true am
           obtain ⟨ad346, e346, hx346_0⟩ := Kd.at_int HR0.out x3_1 p346 q346
           cases e346
           replace p346 := eq_true p346
           replace q346 := eq_true q346
           go_wp2_with (first | (go_at_call 76; (with_reducible refine (spec_l1In.calls (rd l0 x3_1) 0 1099511627776 true _ A6.out).mono ?_); rintro e w' ⟨rfl, ⟨nd, rfl⟩⟩; (try first | exact ⟨rfl, _, World.drewN_drewN _ _ _⟩ | exact ⟨rfl, _, Eq.trans (World.drewN_drewN _ _ _) (congrArg (World.drewN _) (Nat.add_assoc _ _ _))⟩); have p348 : 0 ≤ ((ji9) : Int) := of_decide_eq_true am; have q348 : (ji9) < (l0.length : Int) := of_decide_eq_true am; obtain ⟨ad348, e348, hx348_0⟩ := Kd.at_int HR0.out (ji9) p348 q348; obtain rfl : ad346 = ad348 := (by injection e348); replace p348 := eq_true p348; replace q348 := eq_true q348; have p349 : 0 ≤ (x3_1 : Int) := of_decide_eq_true am; have q349 : x3_1 < (l0.length : Int) := of_decide_eq_true am; obtain ⟨ad349, e349, hx349_0⟩ := Kd.at_int HR0.out x3_1 p349 q349; obtain rfl : ad346 = ad349 := (by injection e349); replace p349 := eq_true p349; replace q349 := eq_true q349))
           repeat (go_quiet (first | (go_at_call 76; (with_reducible refine (spec_l1In.calls (rd l0 x3_1) 0 1099511627776 true _ A6.out).mono ?_); rintro e w' ⟨rfl, ⟨nd, rfl⟩⟩; (try first | exact ⟨rfl, _, World.drewN_drewN _ _ _⟩ | exact ⟨rfl, _, Eq.trans (World.drewN_drewN _ _ _) (congrArg (World.drewN _) (Nat.add_assoc _ _ _))⟩); have p348 : 0 ≤ ((ji9) : Int) := of_decide_eq_true am; have q348 : (ji9) < (l0.length : Int) := of_decide_eq_true am; obtain ⟨ad348, e348, hx348_0⟩ := Kd.at_int HR0.out (ji9) p348 q348; obtain rfl : ad346 = ad348 := (by injection e348); replace p348 := eq_true p348; replace q348 := eq_true q348; have p349 : 0 ≤ (x3_1 : Int) := of_decide_eq_true am; have q349 : x3_1 < (l0.length : Int) := of_decide_eq_true am; obtain ⟨ad349, e349, hx349_0⟩ := Kd.at_int HR0.out x3_1 p349 q349; obtain rfl : ad346 = ad349 := (by injection e349); replace p349 := eq_true p349; replace q349 := eq_true q349)); try go_wp2_with (first | (go_at_call 76; (with_reducible refine (spec_l1In.calls (rd l0 x3_1) 0 1099511627776 true _ A6.out).mono ?_); rintro e w' ⟨rfl, ⟨nd, rfl⟩⟩; (try first | exact ⟨rfl, _, World.drewN_drewN _ _ _⟩ | exact ⟨rfl, _, Eq.trans (World.drewN_drewN _ _ _) (congrArg (World.drewN _) (Nat.add_assoc _ _ _))⟩); have p348 : 0 ≤ ((ji9) : Int) := of_decide_eq_true am; have q348 : (ji9) < (l0.length : Int) := of_decide_eq_true am; obtain ⟨ad348, e348, hx348_0⟩ := Kd.at_int HR0.out (ji9) p348 q348; obtain rfl : ad346 = ad348 := (by injection e348); replace p348 := eq_true p348; replace q348 := eq_true q348; have p349 : 0 ≤ (x3_1 : Int) := of_decide_eq_true am; have q349 : x3_1 < (l0.length : Int) := of_decide_eq_true am; obtain ⟨ad349, e349, hx349_0⟩ := Kd.at_int HR0.out x3_1 p349 q349; obtain rfl : ad346 = ad349 := (by injection e349); replace p349 := eq_true p349; replace q349 := eq_true q349)))
           go_ret
           exact ⟨by first | rfl | (simp; done) | (simp only [← hji9] <;> (first | rfl | simp)) | (simp [*]; done), fd⟩
          ·rw [if_neg c12] at H
           have c12b0 : decide ((rd l0 x3_1) ≤ (rd l0 (ji9))) = false := decide_eq_false c12
           clear c12
           have H' := Aside0.mk H
           clear H
           have p346 : 0 ≤ (x3_1 : Int) := of_decide_eq_true am
           have q346 : x3_1 < (l0.length : Int) := of_decide_eq_true am
           obtain ⟨ad346, e346, hx346_0⟩ := Kd.at_int HR0.out x3_1 p346 q346
           cases e346
           replace p346 := eq_true p346
           replace q346 := eq_true q346
           go_wp2_with (first | (go_at_call 76; (with_reducible refine (spec_l1In.calls (rd l0 x3_1) 0 1099511627776 true _ A6.out).mono ?_); rintro e w' ⟨rfl, ⟨nd, rfl⟩⟩; (try first | exact ⟨rfl, _, World.drewN_drewN _ _ _⟩ | exact ⟨rfl, _, Eq.trans (World.drewN_drewN _ _ _) (congrArg (World.drewN _) (Nat.add_assoc _ _ _))⟩); have p348 : 0 ≤ ((ji9) : Int) := of_decide_eq_true am; have q348 : (ji9) < (l0.length : Int) := of_decide_eq_true am; obtain ⟨ad348, e348, hx348_0⟩ := Kd.at_int HR0.out (ji9) p348 q348; obtain rfl : ad346 = ad348 := (by injection e348); replace p348 := eq_true p348; replace q348 := eq_true q348; have p349 : 0 ≤ (x3_1 : Int) := of_decide_eq_true am; have q349 : x3_1 < (l0.length : Int) := of_decide_eq_true am; obtain ⟨ad349, e349, hx349_0⟩ := Kd.at_int HR0.out x3_1 p349 q349; obtain rfl : ad346 = ad349 := (by injection e349); replace p349 := eq_true p349; replace q349 := eq_true q349))
           repeat (go_quiet (first | (go_at_call 76; (with_reducible refine (spec_l1In.calls (rd l0 x3_1) 0 1099511627776 true _ A6.out).mono ?_); rintro e w' ⟨rfl, ⟨nd, rfl⟩⟩; (try first | exact ⟨rfl, _, World.drewN_drewN _ _ _⟩ | exact ⟨rfl, _, Eq.trans (World.drewN_drewN _ _ _) (congrArg (World.drewN _) (Nat.add_assoc _ _ _))⟩); have p348 : 0 ≤ ((ji9) : Int) := of_decide_eq_true am; have q348 : (ji9) < (l0.length : Int) := of_decide_eq_true am; obtain ⟨ad348, e348, hx348_0⟩ := Kd.at_int HR0.out (ji9) p348 q348; obtain rfl : ad346 = ad348 := (by injection e348); replace p348 := eq_true p348; replace q348 := eq_true q348; have p349 : 0 ≤ (x3_1 : Int) := of_decide_eq_true am; have q349 : x3_1 < (l0.length : Int) := of_decide_eq_true am; obtain ⟨ad349, e349, hx349_0⟩ := Kd.at_int HR0.out x3_1 p349 q349; obtain rfl : ad346 = ad349 := (by injection e349); replace p349 := eq_true p349; replace q349 := eq_true q349)); try go_wp2_with (first | (go_at_call 76; (with_reducible refine (spec_l1In.calls (rd l0 x3_1) 0 1099511627776 true _ A6.out).mono ?_); rintro e w' ⟨rfl, ⟨nd, rfl⟩⟩; (try first | exact ⟨rfl, _, World.drewN_drewN _ _ _⟩ | exact ⟨rfl, _, Eq.trans (World.drewN_drewN _ _ _) (congrArg (World.drewN _) (Nat.add_assoc _ _ _))⟩); have p348 : 0 ≤ ((ji9) : Int) := of_decide_eq_true am; have q348 : (ji9) < (l0.length : Int) := of_decide_eq_true am; obtain ⟨ad348, e348, hx348_0⟩ := Kd.at_int HR0.out (ji9) p348 q348; obtain rfl : ad346 = ad348 := (by injection e348); replace p348 := eq_true p348; replace q348 := eq_true q348; have p349 : 0 ≤ (x3_1 : Int) := of_decide_eq_true am; have q349 : x3_1 < (l0.length : Int) := of_decide_eq_true am; obtain ⟨ad349, e349, hx349_0⟩ := Kd.at_int HR0.out x3_1 p349 q349; obtain rfl : ad346 = ad349 := (by injection e349); replace p349 := eq_true p349; replace q349 := eq_true q349)))
           go_roundg k1
           case measure => have := HK1.out; omega
           case rel => exact ⟨(wrap64 (x3_1 + 1)), fa, H', ⟨by have := HK1.out; omega⟩, fd⟩
         ·rw [if_neg c11] at H
          exact absurd H (by simp)
        ·rw [if_neg c10] at H
         exact absurd H (by simp)
       ·rw [if_neg c8] at H
        have c8b0 : decide (0 < x3_1) = false := decide_eq_false c8
        clear c8
        have H' := Aside0.mk H
        clear H
        have p346 : 0 ≤ (x3_1 : Int) := of_decide_eq_true am
        have q346 : x3_1 < (l0.length : Int) := of_decide_eq_true am
        obtain ⟨ad346, e346, hx346_0⟩ := Kd.at_int HR0.out x3_1 p346 q346
        cases e346
        replace p346 := eq_true p346
        replace q346 := eq_true q346
        go_wp2_with (first | (go_at_call 76; (with_reducible refine (spec_l1In.calls (rd l0 x3_1) 0 1099511627776 true _ A6.out).mono ?_); rintro e w' ⟨rfl, ⟨nd, rfl⟩⟩; (try first | exact ⟨rfl, _, World.drewN_drewN _ _ _⟩ | exact ⟨rfl, _, Eq.trans (World.drewN_drewN _ _ _) (congrArg (World.drewN _) (Nat.add_assoc _ _ _))⟩)))
        repeat (go_quiet (first | (go_at_call 76; (with_reducible refine (spec_l1In.calls (rd l0 x3_1) 0 1099511627776 true _ A6.out).mono ?_); rintro e w' ⟨rfl, ⟨nd, rfl⟩⟩; (try first | exact ⟨rfl, _, World.drewN_drewN _ _ _⟩ | exact ⟨rfl, _, Eq.trans (World.drewN_drewN _ _ _) (congrArg (World.drewN _) (Nat.add_assoc _ _ _))⟩))); try go_wp2_with (first | (go_at_call 76; (with_reducible refine (spec_l1In.calls (rd l0 x3_1) 0 1099511627776 true _ A6.out).mono ?_); rintro e w' ⟨rfl, ⟨nd, rfl⟩⟩; (try first | exact ⟨rfl, _, World.drewN_drewN _ _ _⟩ | exact ⟨rfl, _, Eq.trans (World.drewN_drewN _ _ _) (congrArg (World.drewN _) (Nat.add_assoc _ _ _))⟩))))
        go_roundg k1
        case measure => have := HK1.out; omega
        case rel => exact ⟨(wrap64 (x3_1 + 1)), fa, H', ⟨by have := HK1.out; omega⟩, fd⟩
      ·replace c7 := Bool.eq_false_iff.mpr c7
       subst c7
       replace H := iF H
       obtain rfl := Option.some.inj H
       have p346 : 0 ≤ (x3_1 : Int) := of_decide_eq_true am
       have q346 : x3_1 < (l0.length : Int) := of_decide_eq_true am
       obtain ⟨ad346, e346, hx346_0⟩ := Kd.at_int HR0.out x3_1 p346 q346
       cases e346
       replace p346 := eq_true p346
       replace q346 := eq_true q346
       go_wp2_with (first | (go_at_call 76; (with_reducible refine (spec_l1In.calls (rd l0 x3_1) 0 1099511627776 false _ A6.out).mono ?_); rintro e w' ⟨rfl, ⟨nd, rfl⟩⟩; (try first | exact ⟨rfl, _, World.drewN_drewN _ _ _⟩ | exact ⟨rfl, _, Eq.trans (World.drewN_drewN _ _ _) (congrArg (World.drewN _) (Nat.add_assoc _ _ _))⟩)))
       repeat (go_quiet (first | (go_at_call 76; (with_reducible refine (spec_l1In.calls (rd l0 x3_1) 0 1099511627776 false _ A6.out).mono ?_); rintro e w' ⟨rfl, ⟨nd, rfl⟩⟩; (try first | exact ⟨rfl, _, World.drewN_drewN _ _ _⟩ | exact ⟨rfl, _, Eq.trans (World.drewN_drewN _ _ _) (congrArg (World.drewN _) (Nat.add_assoc _ _ _))⟩))); try go_wp2_with (first | (go_at_call 76; (with_reducible refine (spec_l1In.calls (rd l0 x3_1) 0 1099511627776 false _ A6.out).mono ?_); rintro e w' ⟨rfl, ⟨nd, rfl⟩⟩; (try first | exact ⟨rfl, _, World.drewN_drewN _ _ _⟩ | exact ⟨rfl, _, Eq.trans (World.drewN_drewN _ _ _) (congrArg (World.drewN _) (Nat.add_assoc _ _ _))⟩))))
       go_ret
       exact ⟨fa, fd⟩
     ·rw [if_neg c5] at H
      exact absurd H (by simp)
    ·rw [if_neg c4] at H
     have c4b0 : decide (x3_1 < (l0.length : Int)) = false := decide_eq_false c4
     clear c4
     obtain rfl := Option.some.inj H
     go_wp2
     repeat (go_quiet (fail); try go_wp2)
     go_ret
     exact ⟨fa, fd⟩
 ·replace c3 := Bool.eq_false_iff.mpr c3
  subst c3
  replace H := iF H
  obtain rfl := Option.some.inj H
  go_enter Try.func84, Try.ntmps84
  go_wp2_with (first | (go_at_call 76; (with_reducible refine (spec_l1In.calls (l0.length : Int) 1 60 false _ A2.out).mono ?_); rintro e w' ⟨rfl, ⟨nd, rfl⟩⟩; (try first | exact ⟨rfl, _, World.drewN_drewN _ _ _⟩ | exact ⟨rfl, _, Eq.trans (World.drewN_drewN _ _ _) (congrArg (World.drewN _) (Nat.add_assoc _ _ _))⟩)))
  repeat (go_quiet (first | (go_at_call 76; (with_reducible refine (spec_l1In.calls (l0.length : Int) 1 60 false _ A2.out).mono ?_); rintro e w' ⟨rfl, ⟨nd, rfl⟩⟩; (try first | exact ⟨rfl, _, World.drewN_drewN _ _ _⟩ | exact ⟨rfl, _, Eq.trans (World.drewN_drewN _ _ _) (congrArg (World.drewN _) (Nat.add_assoc _ _ _))⟩))); try go_wp2_with (first | (go_at_call 76; (with_reducible refine (spec_l1In.calls (l0.length : Int) 1 60 false _ A2.out).mono ?_); rintro e w' ⟨rfl, ⟨nd, rfl⟩⟩; (try first | exact ⟨rfl, _, World.drewN_drewN _ _ _⟩ | exact ⟨rfl, _, Eq.trans (World.drewN_drewN _ _ _) (congrArg (World.drewN _) (Nat.add_assoc _ _ _))⟩))))
  go_ret
  exact ⟨fa, fd⟩

/-! ### spec_ShowTimes: function 24 -/
def spec_ShowTimes.l0 : Nat → List Int → ByteArray → Int → Option (ByteArray)
 | 0, _, _, _ => none
 | k + 1, x0, x3, x4 => if x4 < (x0.length : Int) then (if 0 ≤ x4 then (if 0 ≤ (wrap64 (x4 - 1)) then (if (wrap64 (x4 - 1)) < (x0.length : Int) then (if x4 = 1 then ((spec_Var.f k (wrap64 ((rd x0 x4) - (rd x0 (wrap64 (x4 - 1)))))).bind fun t355 => (if x3.size + t355.size ≤ 9223372036854775807 then (spec_ShowTimes.l0 k x0 (x3 ++ t355) (wrap64 (x4 + 1))) else (none))) else (if 0 ≤ (wrap64 (x4 - 2)) then (if (wrap64 (x4 - 2)) < (x0.length : Int) then ((spec_ZigZag.f (wrap64 ((wrap64 ((rd x0 x4) - (rd x0 (wrap64 (x4 - 1))))) - (wrap64 ((rd x0 (wrap64 (x4 - 1))) - (rd x0 (wrap64 (x4 - 2)))))))).bind fun t358 => ((spec_Var.f k t358).bind fun t359 => (if x3.size + t359.size ≤ 9223372036854775807 then (spec_ShowTimes.l0 k x0 (x3 ++ t359) (wrap64 (x4 + 1))) else (none)))) else (none)) else (none))) else (none)) else (none)) else (none)) else (some x3)
def spec_ShowTimes.f (k : Nat) (l0 : List Int) : Option (ByteArray) := (spec_l7Rise.f k l0).bind fun t350 => (if t350 = true then (if 0 < (l0.length : Int) then ((spec_Var.f k (rd l0 0)).bind fun t352 => (spec_ShowTimes.l0 k l0 t352 1)) else (none)) else (some (⟨#[]⟩ : ByteArray)))
theorem spec_ShowTimes.mono_l : ∀ k, (∀ y0 y1 y2, LeO (spec_ShowTimes.l0 k y0 y1 y2) (spec_ShowTimes.l0 (k + 1) y0 y1 y2))
 | 0 => fun _ _ _ r h => by simp [spec_ShowTimes.l0] at h
 | k + 1 => by
  have ih0 := spec_ShowTimes.mono_l k
  ·intro y0 y1 y2
   unfold spec_ShowTimes.l0
   repeat' first
   | (with_reducible exact ih0 _ _ _)
   | (with_reducible exact spec_Var.mono _ _)
   | (with_reducible exact spec_l7Rise.mono _ _)
   | (with_reducible exact LeO.refl _)
   | (with_reducible exact LeO.none _)
   | (with_reducible refine LeO.ite ?_ ?_)
   | (with_reducible refine LeO.bind ?_ (fun _ => ?_))
   | exact ih0 _ _ _
   | exact spec_Var.mono _ _
   | exact spec_l7Rise.mono _ _
   | exact LeO.none _
   | refine LeO.ite ?_ ?_
   | refine LeO.bind ?_ (fun _ => ?_)
theorem spec_ShowTimes.mono : ∀ a0 k, LeO (spec_ShowTimes.f k a0) (spec_ShowTimes.f (k + 1) a0) := by
 intro a0 k
 have ih0 := spec_ShowTimes.mono_l k
 unfold spec_ShowTimes.f
 repeat' first
  | (with_reducible exact ih0 _ _ _)
  | (with_reducible exact spec_Var.mono _ _)
  | (with_reducible exact spec_l7Rise.mono _ _)
  | (with_reducible exact LeO.refl _)
  | (with_reducible exact LeO.none _)
  | (with_reducible refine LeO.ite ?_ ?_)
  | (with_reducible refine LeO.bind ?_ (fun _ => ?_))
  | exact ih0 _ _ _
  | exact spec_Var.mono _ _
  | exact spec_l7Rise.mono _ _
  | exact LeO.none _
  | refine LeO.ite ?_ ?_
  | refine LeO.bind ?_ (fun _ => ?_)
def spec_ShowTimes.T7 : Bool × List (List Nat × List Nat) := (true, [([], []), ([], []), ([0, 1], [0, 1]), ([2], [2]), ([], []), ([], []), ([5], [5]), ([4, 6], [4, 6]), ([7], [7]), ([3, 8], [3, 8]), ([9, 0, 1, 2, 3, 4, 5, 6, 7, 8, 9], [9])])
def spec_ShowTimes.B7 : List Nat := [0, 0, 3, 7, 0, 0, 32, 112, 240, 511, 1023]
theorem spec_ShowTimes.tab7 : rtab .any (opsOf Try.f24 7) = spec_ShowTimes.T7 := by kernel_rfl
theorem spec_ShowTimes.bits7 : waitsOk spec_ShowTimes.T7.2 spec_ShowTimes.B7 = true := by kernel_rfl
def spec_ShowTimes.T10 : Bool × List (List Nat × List Nat) := (true, [([], []), ([], []), ([], []), ([], []), ([3], [3]), ([2, 4], [2, 4]), ([5], [5]), ([], []), ([], []), ([8], [8]), ([7, 9], [7, 9]), ([10], [10]), ([6, 11], [6, 11]), ([1, 12], [1, 12]), ([13], [13]), ([14, 14], [14]), ([0, 15], [0, 15]), ([16, 15, 0, 1, 2, 3, 4, 5, 6, 7, 8, 9, 10, 11, 12, 13, 14, 15, 16], [0, 16])])
def spec_ShowTimes.B10 : List Nat := [0, 0, 0, 0, 8, 28, 60, 0, 0, 256, 896, 1920, 4092, 8190, 16382, 32766, 65535, 131071]
theorem spec_ShowTimes.tab10 : rtab .any (opsOf Try.f24 10) = spec_ShowTimes.T10 := by kernel_rfl
theorem spec_ShowTimes.bits10 : waitsOk spec_ShowTimes.T10.2 spec_ShowTimes.B10 = true := by kernel_rfl
set_option maxHeartbeats 8000000 in
set_option maxRecDepth 100000 in
theorem spec_ShowTimes.calls (k : Nat) (A0 : Option Addr) (c0 : Nat) (l0 : List Int) (r : ByteArray) (w : World) (hr0 : Kd.C (Kd.int .i64) w A0 l0.length l0) (hc0 : l0.length ≤ c0) (h : spec_ShowTimes.f k l0 = some r) :
 Calls Try.prog 24 #[.slice A0 l0.length c0] w fun e w' => e = .returned (.string r) ∧ Below w.heap.size w w' := by
 have HR0 := Aside0.mk hr0
 have HC0 := Aside0.mk hc0
 clear hr0 hc0
 have HB := Aside0.mk (Below.refl w.heap.size w)
 have H : ((spec_l7Rise.f k l0).bind fun t350 => (if t350 = true then (if 0 < (l0.length : Int) then ((spec_Var.f k (rd l0 0)).bind fun t352 => (spec_ShowTimes.l0 k l0 t352 1)) else (none)) else (some (⟨#[]⟩ : ByteArray)))) = some r := h
 clear h
 obtain ⟨t350, A2, H⟩ := bd H
 by_cases c3 : t350 = true
 ·subst c3
  replace H := iT H
  by_cases c4 : 0 < (l0.length : Int)
  ·rw [if_pos c4] at H
   have c4b0 : decide (0 < (l0.length : Int)) = true := decide_eq_true c4
   have c4b1 : decide (0 < l0.length) = true := decide_eq_true (by omega)
   clear c4
   obtain ⟨t352, A5, H⟩ := bd H
   have H' := Aside0.mk H
   clear H
   go_enter Try.func24, Try.ntmps24
   go_wp2_with (first | ((with_reducible refine gC 84 rfl ?_); refine goesZ (some 7) rfl Try.func84 #[.slice A0 l0.length c0] ?_; (with_reducible refine (spec_l7Rise.calls k _ _ l0 true _ ?side1 ?side2 A2.out).mono ?_); (case side1 => exact ca HR0.out); (case side2 => exact HC0.out); rintro e w' ⟨rfl, ⟨nd, rfl⟩⟩; refine ⟨_, rfl, ?_⟩; have p351 : 0 ≤ (0 : Int) := (by omega); have q351 : 0 < (l0.length : Int) := of_decide_eq_true am; obtain ⟨ad351, e351, hx351_0⟩ := Kd.at_int HR0.out 0 p351 q351; cases e351; have qi351 : (0 < l0.length) = True := eq_true (by omega); (try rw [show ((0 : Int)).toNat = 0 from rfl] at hx351_0); (try rw [Addr.add_zero'] at hx351_0); replace p351 := eq_true p351; replace q351 := eq_true q351) | ((with_reducible refine gC 81 rfl ?_); refine goesZ (some 12) rfl Try.func81 #[.int .i64 (rd l0 0)] ?_; (with_reducible refine (spec_Var.calls k (rd l0 0) t352 _ A5.out).mono ?_); rintro e w6 ⟨rfl, hb⟩; refine ⟨_, rfl, ?_⟩; replace HB := bs (w := w) hb; (try clear hb)))
   go_loopg [3, 4] k (fun kq v3 v4 w' => ∃ (x3_1 : ByteArray) (x4_1 : Int), v3 = .string x3_1 ∧ v4 = .int .i64 x4_1 ∧ Aside0 (spec_ShowTimes.l0 kq l0 x3_1 x4_1 = some r) ∧ Aside0 (kq ≤ k) ∧ Aside0 (Below w.heap.size w w'))
   case atStart => exact ⟨(t352), (1), fa, fa, H', ⟨Nat.le_refl _⟩, ⟨bl⟩⟩
   case round =>
    clear H'
    try clear c2
    try clear p2
    try clear c3
    try clear p3
    try clear q3
    try clear hx3
    try clear qi3
    try clear c4
    try clear c4b0
    try clear c4b1
    try clear hx351_0
    try clear p351
    try clear q351
    obtain ⟨x3_1, x4_1, rfl, rfl, HA, HK1, HB⟩ := hrel
    cases gk with
    | zero => exact absurd HA.out (by simp [spec_ShowTimes.l0])
    | succ k1 =>
     have H := HA.out
     clear HA
     simp only [spec_ShowTimes.l0] at H
     by_cases c7 : x4_1 < (l0.length : Int)
     ·rw [if_pos c7] at H
      have c7b0 : decide (x4_1 < (l0.length : Int)) = true := decide_eq_true c7
      clear c7
      by_cases c8 : 0 ≤ x4_1
      ·rw [if_pos c8] at H
       have c8b0 : decide (0 ≤ x4_1) = true := decide_eq_true c8
       clear c8
       obtain ⟨ji9, hji9⟩ : ∃ j_ : Int, (wrap64 (x4_1 - 1)) = j_ := ⟨_, rfl⟩
       replace H : (if 0 ≤ (ji9) then (if (ji9) < (l0.length : Int) then (if x4_1 = 1 then ((spec_Var.f k1 (wrap64 ((rd l0 x4_1) - (rd l0 (ji9))))).bind fun t355 => (if x3_1.size + t355.size ≤ 9223372036854775807 then (spec_ShowTimes.l0 k1 l0 (x3_1 ++ t355) (wrap64 (x4_1 + 1))) else (none))) else (if 0 ≤ (wrap64 (x4_1 - 2)) then (if (wrap64 (x4_1 - 2)) < (l0.length : Int) then ((spec_ZigZag.f (wrap64 ((wrap64 ((rd l0 x4_1) - (rd l0 (ji9)))) - (wrap64 ((rd l0 (ji9)) - (rd l0 (wrap64 (x4_1 - 2)))))))).bind fun t358 => ((spec_Var.f k1 t358).bind fun t359 => (if x3_1.size + t359.size ≤ 9223372036854775807 then (spec_ShowTimes.l0 k1 l0 (x3_1 ++ t359) (wrap64 (x4_1 + 1))) else (none)))) else (none)) else (none))) else (none)) else (none)) = some r := by first | (rw [hji9] at H; exact H) | (simp only [hji9] at H ⊢; exact H)
       have hji9w : (IntKind.i64.wrap (x4_1 - 1)) = ji9 := (i64_w _).trans hji9
       by_cases c10 : 0 ≤ (ji9)
       ·rw [if_pos c10] at H
        have c10b0 : decide (0 ≤ (ji9)) = true := decide_eq_true c10
        clear c10
        by_cases c11 : (ji9) < (l0.length : Int)
        ·rw [if_pos c11] at H
         have c11b0 : decide ((ji9) < (l0.length : Int)) = true := decide_eq_true c11
         clear c11
         by_cases c12 : x4_1 = 1
         ·rw [if_pos c12] at H
          have c12b0 : (x4_1 == 1) = true := beq_iff_eq.mpr c12
          have c12b1 : (x4_1 != 1) = false := bne_eq_false_iff_eq.mpr c12
          clear c12
          obtain ⟨t355, A13, H⟩ := bd H
          by_cases c14 : x3_1.size + t355.size ≤ 9223372036854775807
          ·rw [if_pos c14] at H
           have c14b0 := eq_true c14
           have c14b1 : decide (x3_1.size + t355.size ≤ 9223372036854775807) = true := decide_eq_true c14
           try have c14b2 : (9223372036854775807 < x3_1.size + t355.size) = False := eq_false (Nat.not_lt.2 c14)
           have H' := Aside0.mk H
           clear H
           try go_wp2
           replace HB := Aside0.mk (below_drew1 HB.out)
           have p353 : 0 ≤ (x4_1 : Int) := of_decide_eq_true am
           have q353 : x4_1 < (l0.length : Int) := of_decide_eq_true am
           obtain ⟨ad353, e353, hx353_0⟩ := Kd.at_int HR0.out x4_1 p353 q353
           have hw353_0 := hx353_0
           obtain rfl : ad351 = ad353 := (by injection e353)
           replace hx353_0 := cz HB hx353_0
           replace p353 := eq_true p353
           replace q353 := eq_true q353
           have p354 : 0 ≤ ((ji9) : Int) := of_decide_eq_true am
           have q354 : (ji9) < (l0.length : Int) := of_decide_eq_true am
           obtain ⟨ad354, e354, hx354_0⟩ := Kd.at_int HR0.out (ji9) p354 q354
           have hw354_0 := hx354_0
           obtain rfl : ad351 = ad354 := (by injection e354)
           replace hx354_0 := cz HB hx354_0
           replace p354 := eq_true p354
           replace q354 := eq_true q354
           refine start_ (n := 11) (S := fun w' => w'.cell? (ad351.add (x4_1).toNat) = some (.int .i64 (rd l0 x4_1)) ∧ w'.cell? (ad351.add ((ji9)).toNat) = some (.int .i64 (rd l0 (ji9)))) (ds := []) (bo 11 0) (by kernel_rfl) rfl rfl ⟨((HB.out.cell (World.block_lt_of_cell? w _ hw353_0)).trans hw353_0), ((HB.out.cell (World.block_lt_of_cell? w _ hw354_0)).trans hw354_0)⟩ (fun hHeld => ?_); refine with_tabW spec_ShowTimes.tab7 spec_ShowTimes.bits7 (fun HT_ HW_ => ?_)
           generalize wr.drew = w15 at HB hx353_0 hx354_0 hHeld ⊢
           refine pV 0 19 (bo 11 1) ?_
           refine pV 1 20 (bo 11 3) ?_
           refine pV 2 21 (bo 11 7) ?_
           refine pV 4 23 (bo 11 23) ?_
           refine pV 5 24 (bo 11 55) ?_
           refine pV 6 25 (bo 11 119) ?_
           refine pV 7 26 (bo 11 247) ?_
           refine tV 3 22 (bo 11 255) ?_
           refine tV 8 27 (bo 11 511) ?_
           refine pV 9 28 (bo 11 1023) ?_
           refine pV 10 5 (bo 11 2047) ?_
           refine done_ (done_of HT_.out (by kernel_rfl)) ?_
           try go_wp2_with (first | ((with_reducible refine gC 81 rfl ?_); refine goesL_ (some 33) rfl rfl Try.func81 (by kernel_rfl) rfl #[.int .i64 (wrap64 ((rd l0 x4_1) - (rd l0 (ji9))))] rfl (by (try simp only [List.map_toArray, List.map_cons, List.map_nil]); first | done | (simp only [hji9]; rfl) | rfl | (simp only [List.length_drop, List.length_take]; rfl)) ?_; (with_reducible refine (spec_Var.calls k1 (wrap64 ((rd l0 x4_1) - (rd l0 (ji9)))) t355 _ A13.out).mono ?_); rintro e w16 ⟨rfl, hb⟩; refine ⟨_, rfl, ?_⟩; replace HB := bs (w := w) hb; (try clear hb)))
           go_roundg k1
           case measure => have := HK1.out; omega
           case rel => exact ⟨(x3_1 ++ t355), (wrap64 (x4_1 + 1)), fa, fa, H', ⟨by have := HK1.out; omega⟩, ⟨bl⟩⟩
          ·rw [if_neg c14] at H
           exact absurd H (by simp)
         ·rw [if_neg c12] at H
          have c12b0 : (x4_1 == 1) = false := beq_eq_false_iff_ne.mpr c12
          have c12b1 : (x4_1 != 1) = true := bne_iff_ne.mpr c12
          obtain ⟨ji17, hji17⟩ : ∃ j_ : Int, (wrap64 (x4_1 - 2)) = j_ := ⟨_, rfl⟩
          replace H : (if 0 ≤ (ji17) then (if (ji17) < (l0.length : Int) then ((spec_ZigZag.f (wrap64 ((wrap64 ((rd l0 x4_1) - (rd l0 (ji9)))) - (wrap64 ((rd l0 (ji9)) - (rd l0 (ji17))))))).bind fun t358 => ((spec_Var.f k1 t358).bind fun t359 => (if x3_1.size + t359.size ≤ 9223372036854775807 then (spec_ShowTimes.l0 k1 l0 (x3_1 ++ t359) (wrap64 (x4_1 + 1))) else (none)))) else (none)) else (none)) = some r := by first | (rw [hji17] at H; exact H) | (simp only [hji17] at H ⊢; exact H)
          have hji17w : (IntKind.i64.wrap (x4_1 - 2)) = ji17 := (i64_w _).trans hji17
          by_cases c18 : 0 ≤ (ji17)
          ·rw [if_pos c18] at H
           have c18b0 : decide (0 ≤ (ji17)) = true := decide_eq_true c18
           clear c18
           by_cases c19 : (ji17) < (l0.length : Int)
           ·rw [if_pos c19] at H
            have c19b0 : decide ((ji17) < (l0.length : Int)) = true := decide_eq_true c19
            clear c19
            obtain ⟨t358, A20, H⟩ := bd H
            obtain ⟨t359, A21, H⟩ := bd H
            by_cases c22 : x3_1.size + t359.size ≤ 9223372036854775807
            ·rw [if_pos c22] at H
             have c22b0 := eq_true c22
             have c22b1 : decide (x3_1.size + t359.size ≤ 9223372036854775807) = true := decide_eq_true c22
             try have c22b2 : (9223372036854775807 < x3_1.size + t359.size) = False := eq_false (Nat.not_lt.2 c22)
             have H' := Aside0.mk H
             clear H
             try go_wp2
             replace HB := Aside0.mk (below_drew1 HB.out)
             have p353 : 0 ≤ (x4_1 : Int) := of_decide_eq_true am
             have q353 : x4_1 < (l0.length : Int) := of_decide_eq_true am
             obtain ⟨ad353, e353, hx353_0⟩ := Kd.at_int HR0.out x4_1 p353 q353
             have hw353_0 := hx353_0
             obtain rfl : ad351 = ad353 := (by injection e353)
             replace hx353_0 := cz HB hx353_0
             replace p353 := eq_true p353
             replace q353 := eq_true q353
             have p354 : 0 ≤ ((ji9) : Int) := of_decide_eq_true am
             have q354 : (ji9) < (l0.length : Int) := of_decide_eq_true am
             obtain ⟨ad354, e354, hx354_0⟩ := Kd.at_int HR0.out (ji9) p354 q354
             have hw354_0 := hx354_0
             obtain rfl : ad351 = ad354 := (by injection e354)
             replace hx354_0 := cz HB hx354_0
             replace p354 := eq_true p354
             replace q354 := eq_true q354
             refine start_ (n := 11) (S := fun w' => w'.cell? (ad351.add (x4_1).toNat) = some (.int .i64 (rd l0 x4_1)) ∧ w'.cell? (ad351.add ((ji9)).toNat) = some (.int .i64 (rd l0 (ji9)))) (ds := []) (bo 11 0) (by kernel_rfl) rfl rfl ⟨((HB.out.cell (World.block_lt_of_cell? w _ hw353_0)).trans hw353_0), ((HB.out.cell (World.block_lt_of_cell? w _ hw354_0)).trans hw354_0)⟩ (fun hHeld => ?_); refine with_tabW spec_ShowTimes.tab7 spec_ShowTimes.bits7 (fun HT_ HW_ => ?_)
             generalize wr.drew = w23 at HB hx353_0 hx354_0 hHeld ⊢
             refine pV 0 19 (bo 11 1) ?_
             refine pV 1 20 (bo 11 3) ?_
             refine pV 2 21 (bo 11 7) ?_
             refine pV 4 23 (bo 11 23) ?_
             refine pV 5 24 (bo 11 55) ?_
             refine pV 6 25 (bo 11 119) ?_
             refine pV 7 26 (bo 11 247) ?_
             refine tV 3 22 (bo 11 255) ?_
             refine tV 8 27 (bo 11 511) ?_
             refine pV 9 28 (bo 11 1023) ?_
             refine pV 10 5 (bo 11 2047) ?_
             refine done_ (done_of HT_.out (by kernel_rfl)) ?_
             try go_wp2
             replace HB := Aside0.mk (below_drew1 HB.out)
             have p356 : 0 ≤ ((ji9) : Int) := of_decide_eq_true am
             have q356 : (ji9) < (l0.length : Int) := of_decide_eq_true am
             obtain ⟨ad356, e356, hx356_0⟩ := Kd.at_int HR0.out (ji9) p356 q356
             have hw356_0 := hx356_0
             obtain rfl : ad351 = ad356 := (by injection e356)
             replace hx356_0 := cz HB hx356_0
             replace p356 := eq_true p356
             replace q356 := eq_true q356
             have p357 : 0 ≤ ((ji17) : Int) := of_decide_eq_true am
             have q357 : (ji17) < (l0.length : Int) := of_decide_eq_true am
             obtain ⟨ad357, e357, hx357_0⟩ := Kd.at_int HR0.out (ji17) p357 q357
             have hw357_0 := hx357_0
             obtain rfl : ad351 = ad357 := (by injection e357)
             replace hx357_0 := cz HB hx357_0
             replace p357 := eq_true p357
             replace q357 := eq_true q357
             refine start_ (n := 18) (S := fun w' => w'.cell? (ad351.add ((ji9)).toNat) = some (.int .i64 (rd l0 (ji9))) ∧ w'.cell? (ad351.add ((ji17)).toNat) = some (.int .i64 (rd l0 (ji17)))) (ds := []) (bo 18 0) (by kernel_rfl) rfl rfl ⟨((HB.out.cell (World.block_lt_of_cell? w _ hw356_0)).trans hw356_0), ((HB.out.cell (World.block_lt_of_cell? w _ hw357_0)).trans hw357_0)⟩ (fun hHeld => ?_); refine with_tabW spec_ShowTimes.tab10 spec_ShowTimes.bits10 (fun HT_ HW_ => ?_)
             generalize w23.drew = w24 at HB hx356_0 hx357_0 hHeld ⊢
             refine pV 0 35 (bo 18 1) ?_
             refine pV 1 36 (bo 18 3) ?_
             refine pV 2 37 (bo 18 7) ?_
             refine pV 3 38 (bo 18 15) ?_
             refine pV 4 39 (bo 18 31) ?_
             refine pV 5 40 (bo 18 63) ?_
             refine pV 7 42 (bo 18 191) ?_
             refine pV 8 43 (bo 18 447) ?_
             refine pV 9 44 (bo 18 959) ?_
             refine pV 10 45 (bo 18 1983) ?_
             refine tV 6 41 (bo 18 2047) ?_
             refine tV 11 46 (bo 18 4095) ?_
             refine pV 12 47 (bo 18 8191) ?_
             refine pV 13 48 (bo 18 16383) ?_
             refine one_ (i := 14) (N := some 49) (bo 18 32767) rfl rfl (one_of HT_.out (by kernel_rfl)) (by decide) (fun K hK => ?_)
             refine goes_ Try.func82 (by kernel_rfl) rfl #[.int .i64 (wrap64 ((wrap64 ((rd l0 x4_1) - (rd l0 (ji9)))) - (wrap64 ((rd l0 (ji9)) - (rd l0 (ji17))))))] (by rfl) rfl rfl (by (try simp only [List.map_toArray, List.map_cons, List.map_nil]); first | done | (simp only [hji17, hji9]; rfl) | rfl | (simp only [List.length_drop, List.length_take]; rfl)) ?_
             with_reducible refine (spec_ZigZag.calls (wrap64 ((wrap64 ((rd l0 x4_1) - (rd l0 (ji9)))) - (wrap64 ((rd l0 (ji9)) - (rd l0 (ji17)))))) t358 _ A20.out).mono ?_
             rintro e w' ⟨rfl, ⟨nd, rfl⟩⟩
             refine ⟨_, rfl, ?_⟩
             refine hK.out _ _ ⟨((HB.out.cell (World.block_lt_of_cell? w _ hw356_0)).trans hw356_0), ((HB.out.cell (World.block_lt_of_cell? w _ hw357_0)).trans hw357_0)⟩ (fun hHeld => ?_)
             clear hK K
             refine norm_ (a' := ?_) ?_ ?_
             rotate_left
             ·show Act.put _ (some 49) _ = _
              simp only [Act.put, List.setIfInBounds_toArray, List.set_cons_zero, List.set_cons_succ, i64_w, i32_w]
              rfl
             refine one_ (i := 15) (N := some 50) (bo 18 65535) rfl rfl (one_of HT_.out (by kernel_rfl)) (by decide) (fun K hK => ?_)
             refine goes_ Try.func81 (by kernel_rfl) rfl #[.int .i64 t358] (by rfl) rfl rfl sa ?_
             with_reducible refine (spec_Var.calls k1 t358 t359 _ A21.out).mono ?_
             rintro e w25 ⟨rfl, hb⟩
             refine ⟨_, rfl, ?_⟩
             replace HB := bs (w := w) hb; (try clear hb hb2 hk hi)
             refine hK.out _ _ ⟨((HB.out.cell (World.block_lt_of_cell? w _ hw356_0)).trans hw356_0), ((HB.out.cell (World.block_lt_of_cell? w _ hw357_0)).trans hw357_0)⟩ (fun hHeld => ?_)
             clear hK K
             refine norm_ (a' := ?_) ?_ ?_
             rotate_left
             ·show Act.put _ (some 50) _ = _
              simp only [Act.put, List.setIfInBounds_toArray, List.set_cons_zero, List.set_cons_succ, i64_w, i32_w]
              rfl
             refine pV 16 51 (bo 18 131071) ?_
             refine pV 17 3 (bo 18 262143) ?_
             refine done_ (done_of HT_.out (by kernel_rfl)) ?_
             try go_wp2
             go_roundg k1
             case measure => have := HK1.out; omega
             case rel => exact ⟨(x3_1 ++ t359), (wrap64 (x4_1 + 1)), fa, fa, H', ⟨by have := HK1.out; omega⟩, ⟨bl⟩⟩
            ·rw [if_neg c22] at H
             exact absurd H (by simp)
           ·rw [if_neg c19] at H
            exact absurd H (by simp)
          ·rw [if_neg c18] at H
           exact absurd H (by simp)
        ·rw [if_neg c11] at H
         exact absurd H (by simp)
       ·rw [if_neg c10] at H
        exact absurd H (by simp)
      ·rw [if_neg c8] at H
       exact absurd H (by simp)
     ·rw [if_neg c7] at H
      have c7b0 : decide (x4_1 < (l0.length : Int)) = false := decide_eq_false c7
      clear c7
      obtain rfl := Option.some.inj H
      go_wp2
      go_ret
      exact ⟨fe, bl⟩
  ·rw [if_neg c4] at H
   exact absurd H (by simp)
 ·replace c3 := Bool.eq_false_iff.mpr c3
  subst c3
  replace H := iF H
  obtain rfl := Option.some.inj H
  go_enter Try.func24, Try.ntmps24
  go_wp2_with (first | ((with_reducible refine gC 84 rfl ?_); refine goesZ (some 7) rfl Try.func84 #[.slice A0 l0.length c0] ?_; (with_reducible refine (spec_l7Rise.calls k _ _ l0 false _ ?side1 ?side2 A2.out).mono ?_); (case side1 => exact ca HR0.out); (case side2 => exact HC0.out); rintro e w' ⟨rfl, ⟨nd, rfl⟩⟩; refine ⟨_, rfl, ?_⟩))
  go_ret
  exact ⟨fe, bl⟩

end Go.Proofs.Ytfmddjbekophnaa.PFnBits
