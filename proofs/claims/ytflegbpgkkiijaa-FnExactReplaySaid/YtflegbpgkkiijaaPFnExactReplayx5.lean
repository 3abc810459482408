-- PRINTED by print.py (a twelfth state) out of the translation. Not trusted: Lean checks it.
import Derived.Test.YtflegbpgkkiijaaPFnExactReplayx0
import Derived.Test.YtflegbpgkkiijaaPFnExactReplayx3
import Derived.Test.YtflegbpgkkiijaaPFnExactReplayx4
import Derived.Test.YtflegbpgkkiijaaZip
namespace Go.Proofs.Ytflegbpgkkiijaa.PFnExactReplay
open Go.RowKit Go.Proofs.YtflegbpgkkiijaaW.PrintWords Go.Proofs.YtflegbpgkkiijaaW.PrintLast Go.Proofs.YtflegbpgkkiijaaW.PrintMore Go.Proofs.Ytflegbpgkkiijaa.Zip
attribute [local go_sem] max2_int min2_int max_two min_two max_three min_three max_four min_four   -- for this text's walks alone
set_option linter.unusedVariables false
set_option linter.unusedSimpArgs false

/-! ### spec_ReadRec: function 10 -/
def spec_ReadRec.j0 : Nat → ByteArray → Bool → Option (Int × Int × Int × Int × ByteArray × Bool)
 | 0, _, _ => none
 | k + 1, x0, x19 => if x19 = true then (some (0, 0, 0, 0, (⟨#[]⟩ : ByteArray), false)) else (if 0 < (x0.size : Int) then (if 1 ≤ (x0.size : Int) then ((spec_ReadVar.f k (x0.extract 1 x0.size)).bind fun bt151 => (if 0 ≤ (wrap64 (1 + bt151.2)) then (if (wrap64 (1 + bt151.2)) ≤ (x0.size : Int) then ((spec_ReadVar.f k (x0.extract ((wrap64 (1 + bt151.2)) : Int).toNat x0.size)).bind fun bt153 => (if 0 ≤ (wrap64 ((wrap64 (1 + bt151.2)) + bt153.2)) then (if (wrap64 ((wrap64 (1 + bt151.2)) + bt153.2)) ≤ (x0.size : Int) then ((spec_ReadVar.f k (x0.extract ((wrap64 ((wrap64 (1 + bt151.2)) + bt153.2)) : Int).toNat x0.size)).bind fun bt155 => (if 0 ≤ (wrap64 ((wrap64 ((wrap64 (1 + bt151.2)) + bt153.2)) + bt155.2)) then (if (wrap64 ((wrap64 ((wrap64 (1 + bt151.2)) + bt153.2)) + bt155.2)) ≤ (x0.size : Int) then (if bt151.2 = 0 then (some (0, 0, 0, 0, (⟨#[]⟩ : ByteArray), false)) else (if bt153.2 = 0 then (some (0, 0, 0, 0, (⟨#[]⟩ : ByteArray), false)) else (if bt155.2 = 0 then (some (0, 0, 0, 0, (⟨#[]⟩ : ByteArray), false)) else ((spec_ShowRec.f k (wrap64 (bt x0 0)) bt151.1 bt153.1 (wrap64 (bt155.1 - 1)) (x0.extract ((wrap64 ((wrap64 ((wrap64 (1 + bt151.2)) + bt153.2)) + bt155.2)) : Int).toNat x0.size)).bind fun t157 => (if t157.toList = x0.toList then (some (wrap64 (bt x0 0), bt151.1, bt153.1, wrap64 (bt155.1 - 1), x0.extract ((wrap64 ((wrap64 ((wrap64 (1 + bt151.2)) + bt153.2)) + bt155.2)) : Int).toNat x0.size, true)) else (some (0, 0, 0, 0, (⟨#[]⟩ : ByteArray), false))))))) else (none)) else (none))) else (none)) else (none))) else (none)) else (none))) else (none)) else (none))
def spec_ReadRec.f (k : Nat) (a0 : ByteArray) : Option (Int × Int × Int × Int × ByteArray × Bool) := if (a0.size : Int) = 0 then (spec_ReadRec.j0 k a0 true) else (spec_ReadRec.j0 k a0 (decide ((a0.size : Int) > 2000)))
theorem spec_ReadRec.mono_l : ∀ k, (∀ y0 y1, LeO (spec_ReadRec.j0 k y0 y1) (spec_ReadRec.j0 (k + 1) y0 y1))
 | 0 => fun _ _ r h => by simp [spec_ReadRec.j0] at h
 | k + 1 => by
  have ih0 := spec_ReadRec.mono_l k
  ·intro y0 y1
   unfold spec_ReadRec.j0
   repeat' first
   | (with_reducible exact ih0 _ _)
   | (with_reducible exact spec_ReadVar.mono _ _)
   | (with_reducible exact spec_ShowRec.mono _ _ _ _ _ _)
   | (with_reducible exact LeO.refl _)
   | (with_reducible exact LeO.none _)
   | (with_reducible refine LeO.ite ?_ ?_)
   | (with_reducible refine LeO.bind ?_ (fun _ => ?_))
   | exact ih0 _ _
   | exact spec_ReadVar.mono _ _
   | exact spec_ShowRec.mono _ _ _ _ _ _
   | exact LeO.none _
   | refine LeO.ite ?_ ?_
   | refine LeO.bind ?_ (fun _ => ?_)
theorem spec_ReadRec.mono : ∀ a0 k, LeO (spec_ReadRec.f k a0) (spec_ReadRec.f (k + 1) a0) := by
 intro a0 k
 have ih0 := spec_ReadRec.mono_l k
 unfold spec_ReadRec.f
 repeat' first
  | (with_reducible exact ih0 _ _)
  | (with_reducible exact spec_ReadVar.mono _ _)
  | (with_reducible exact spec_ShowRec.mono _ _ _ _ _ _)
  | (with_reducible exact LeO.refl _)
  | (with_reducible exact LeO.none _)
  | (with_reducible refine LeO.ite ?_ ?_)
  | (with_reducible refine LeO.bind ?_ (fun _ => ?_))
  | exact ih0 _ _
  | exact spec_ReadVar.mono _ _
  | exact spec_ShowRec.mono _ _ _ _ _ _
  | exact LeO.none _
  | refine LeO.ite ?_ ?_
  | refine LeO.bind ?_ (fun _ => ?_)
set_option maxHeartbeats 8000000 in
set_option maxRecDepth 100000 in
theorem spec_ReadRec.calls (k : Nat) (a0 : ByteArray) (r1 : Int) (r2 : Int) (r3 : Int) (r4 : Int) (r5 : ByteArray) (r6 : Bool) (w : World) (h : spec_ReadRec.f k a0 = some (r1, r2, r3, r4, r5, r6)) :
 Calls Try.prog 10 #[.string a0] w fun e w' => e = .returned (.tuple #[.agg #[.int .i64 r1, .int .i64 r2, .int .i64 r3, .int .i64 r4, .string r5], .bool r6]) ∧ Below w.heap.size w w' := by
 have hu34 := Try.underlying34
 have HB := Aside0.mk (Below.refl w.heap.size w)
 have H : (if (a0.size : Int) = 0 then (spec_ReadRec.j0 k a0 true) else (spec_ReadRec.j0 k a0 (decide ((a0.size : Int) > 2000)))) = some (r1, r2, r3, r4, r5, r6) := h
 clear h
 have HC2 := Aside0.mk H
 clear H
 go_enter Try.func10, Try.ntmps10
 go_upto_region 1 with (first | ((with_reducible refine gD 2 rfl ?_); (try (refine gate_guard rfl ?_; dsimp only)); refine boxZ 2 #[.int .i64 0, .int .i64 0, .int .i64 0, .int .i64 0, .string (⟨#[]⟩ : ByteArray)] 34 ?_; intro gb149 hg w3 hbox hb; have BK149 := Aside0.mk hbox; have GW149 := gw (w := w) hg; have GE149 := gw (w := w) hg; replace HB := bs (w := w) hb; clear hb hbox hg))
 (try simp only [Act.put, List.setIfInBounds_toArray, List.set_cons_zero, List.set_cons_succ])
 go_cut [19] (fun v19 wc => ∃ (kq : Nat) (x19_1 : Bool), v19 = .bool x19_1 ∧ Aside0 (spec_ReadRec.j0 kq a0 x19_1 = some (r1, r2, r3, r4, r5, r6)) ∧ Aside0 (kq ≤ k) ∧ Aside0 (wc.heap[gb149]? = some (.cells #[.int .i64 0, .int .i64 0, .int .i64 0, .int .i64 0, .string (⟨#[]⟩ : ByteArray)] 34 (0, 0))) ∧ Aside0 (Below w.heap.size w wc))
 case first =>
  have H := HC2.out
  clear HC2
  by_cases c4 : (a0.size : Int) = 0
  ·rw [if_pos c4] at H
   have c4b0 : ((a0.size : Int) == 0) = true := beq_iff_eq.mpr c4
   have c4b1 : ((a0.size : Int) != 0) = false := bne_eq_false_iff_eq.mpr c4
   clear c4
   (first | rw [c4b0] | (simp only [i64_w, i32_w]; rw [c4b0]) | skip)
   have H' := Aside0.mk H
   clear H
   go_wp2
   go_meet
   case rel => exact ⟨_, (true), fa, H', ⟨by first | omega | exact Nat.le_refl _⟩, ⟨by (with_reducible repeat (first | refine blk_drewN ?_ _ | refine blk_drew ?_ | refine blk_alloc ?_ _)); exact BK149.out⟩, ⟨bl⟩⟩
  ·rw [if_neg c4] at H
   have c4b0 : ((a0.size : Int) == 0) = false := beq_eq_false_iff_ne.mpr c4
   have c4b1 : ((a0.size : Int) != 0) = true := bne_iff_ne.mpr c4
   (first | rw [c4b0] | (simp only [i64_w, i32_w]; rw [c4b0]) | skip)
   have H' := Aside0.mk H
   clear H
   go_wp2
   go_meet
   case rel => exact ⟨_, (decide ((a0.size : Int) > 2000)), fa, H', ⟨by first | omega | exact Nat.le_refl _⟩, ⟨by (with_reducible repeat (first | refine blk_drewN ?_ _ | refine blk_drew ?_ | refine blk_alloc ?_ _)); exact BK149.out⟩, ⟨bl⟩⟩
 case rest =>
  clear HC2
  try clear c1
  try clear p2
  try clear c4
  try clear c4b0
  try clear c4b1
  obtain ⟨kq, x19_1, rfl, HA, HJ1, BK149, HB⟩ := hcut
  cases kq with
  | zero => exact absurd HA.out (by simp [spec_ReadRec.j0])
  | succ kj1 =>
   have H := HA.out
   clear HA
   simp only [spec_ReadRec.j0] at H
   by_cases c5 : x19_1 = true
   ·subst c5
    replace H := iT H
    simp only [Option.some.injEq, Prod.mk.injEq] at H
    obtain ⟨rfl, rfl, rfl, rfl, rfl, rfl⟩ := H
    obtain ⟨Z6_0, Z6_1, Z6_2, Z6_3, Z6_4, Y6_0, Y6_1, Y6_2, Y6_3, Y6_4⟩ := cf5 BK149
    go_wp2
    refine bodyPost_ret (results_ct rfl _ _ gb149 34 #[.int .i64 0, .int .i64 0, .int .i64 0, .int .i64 0, .string (⟨#[]⟩ : ByteArray)] (0, 0) _ rfl bkk Try.underlying34 rfl (by kernel_rfl)) rfl ?_
    exact ⟨fe, bl⟩
   ·replace c5 := Bool.eq_false_iff.mpr c5
    subst c5
    replace H := iF H
    by_cases c7 : 0 < (a0.size : Int)
    ·rw [if_pos c7] at H
     have c7b0 : decide (0 < (a0.size : Int)) = true := decide_eq_true c7
     have c7b1 : decide (0 < a0.size) = true := decide_eq_true (by omega)
     clear c7
     by_cases c9 : 1 ≤ (a0.size : Int)
     ·rw [if_pos c9] at H
      have c9b0 := eq_true c9
      have c9b1 : decide (1 ≤ (a0.size : Int)) = true := decide_eq_true c9
      clear c9
      replace H := Option.bind_eq_some_iff.mp H
      obtain ⟨⟨t151, t152⟩, A100, H⟩ := H
      replace H : (if 0 ≤ (wrap64 (1 + t152)) then (if (wrap64 (1 + t152)) ≤ (a0.size : Int) then ((spec_ReadVar.f kj1 (a0.extract ((wrap64 (1 + t152)) : Int).toNat a0.size)).bind fun bt153 => (if 0 ≤ (wrap64 ((wrap64 (1 + t152)) + bt153.2)) then (if (wrap64 ((wrap64 (1 + t152)) + bt153.2)) ≤ (a0.size : Int) then ((spec_ReadVar.f kj1 (a0.extract ((wrap64 ((wrap64 (1 + t152)) + bt153.2)) : Int).toNat a0.size)).bind fun bt155 => (if 0 ≤ (wrap64 ((wrap64 ((wrap64 (1 + t152)) + bt153.2)) + bt155.2)) then (if (wrap64 ((wrap64 ((wrap64 (1 + t152)) + bt153.2)) + bt155.2)) ≤ (a0.size : Int) then (if t152 = 0 then (some (0, 0, 0, 0, (⟨#[]⟩ : ByteArray), false)) else (if bt153.2 = 0 then (some (0, 0, 0, 0, (⟨#[]⟩ : ByteArray), false)) else (if bt155.2 = 0 then (some (0, 0, 0, 0, (⟨#[]⟩ : ByteArray), false)) else ((spec_ShowRec.f kj1 (wrap64 (bt a0 0)) t151 bt153.1 (wrap64 (bt155.1 - 1)) (a0.extract ((wrap64 ((wrap64 ((wrap64 (1 + t152)) + bt153.2)) + bt155.2)) : Int).toNat a0.size)).bind fun t157 => (if t157.toList = a0.toList then (some (wrap64 (bt a0 0), t151, bt153.1, wrap64 (bt155.1 - 1), a0.extract ((wrap64 ((wrap64 ((wrap64 (1 + t152)) + bt153.2)) + bt155.2)) : Int).toNat a0.size, true)) else (some (0, 0, 0, 0, (⟨#[]⟩ : ByteArray), false))))))) else (none)) else (none))) else (none)) else (none))) else (none)) else (none)) = some (r1, r2, r3, r4, r5, r6) := H
      have A10 := Aside0.mk A100
      clear A100
      obtain ⟨ji11, hji11⟩ : ∃ j_ : Int, (wrap64 (1 + t152)) = j_ := ⟨_, rfl⟩
      replace H : (if 0 ≤ (ji11) then (if (ji11) ≤ (a0.size : Int) then ((spec_ReadVar.f kj1 (a0.extract ((ji11) : Int).toNat a0.size)).bind fun bt153 => (if 0 ≤ (wrap64 ((ji11) + bt153.2)) then (if (wrap64 ((ji11) + bt153.2)) ≤ (a0.size : Int) then ((spec_ReadVar.f kj1 (a0.extract ((wrap64 ((ji11) + bt153.2)) : Int).toNat a0.size)).bind fun bt155 => (if 0 ≤ (wrap64 ((wrap64 ((ji11) + bt153.2)) + bt155.2)) then (if (wrap64 ((wrap64 ((ji11) + bt153.2)) + bt155.2)) ≤ (a0.size : Int) then (if t152 = 0 then (some (0, 0, 0, 0, (⟨#[]⟩ : ByteArray), false)) else (if bt153.2 = 0 then (some (0, 0, 0, 0, (⟨#[]⟩ : ByteArray), false)) else (if bt155.2 = 0 then (some (0, 0, 0, 0, (⟨#[]⟩ : ByteArray), false)) else ((spec_ShowRec.f kj1 (wrap64 (bt a0 0)) t151 bt153.1 (wrap64 (bt155.1 - 1)) (a0.extract ((wrap64 ((wrap64 ((ji11) + bt153.2)) + bt155.2)) : Int).toNat a0.size)).bind fun t157 => (if t157.toList = a0.toList then (some (wrap64 (bt a0 0), t151, bt153.1, wrap64 (bt155.1 - 1), a0.extract ((wrap64 ((wrap64 ((ji11) + bt153.2)) + bt155.2)) : Int).toNat a0.size, true)) else (some (0, 0, 0, 0, (⟨#[]⟩ : ByteArray), false))))))) else (none)) else (none))) else (none)) else (none))) else (none)) else (none)) = some (r1, r2, r3, r4, r5, r6) := by first | (rw [hji11] at H; exact H) | (simp only [hji11] at H ⊢; exact H)
      (try rw [hji11] at A10)
      have hji11w : (IntKind.i64.wrap (1 + t152)) = ji11 := (i64_w _).trans hji11
      by_cases c12 : 0 ≤ (ji11)
      ·rw [if_pos c12] at H
       have c12b0 := eq_true c12
       have c12b1 : decide (0 ≤ (ji11)) = true := decide_eq_true c12
       clear c12
       by_cases c13 : (ji11) ≤ (a0.size : Int)
       ·rw [if_pos c13] at H
        have c13b0 := eq_true c13
        have c13b1 : decide ((ji11) ≤ (a0.size : Int)) = true := decide_eq_true c13
        clear c13
        replace H := Option.bind_eq_some_iff.mp H
        obtain ⟨⟨t153, t154⟩, A140, H⟩ := H
        replace H : (if 0 ≤ (wrap64 ((ji11) + t154)) then (if (wrap64 ((ji11) + t154)) ≤ (a0.size : Int) then ((spec_ReadVar.f kj1 (a0.extract ((wrap64 ((ji11) + t154)) : Int).toNat a0.size)).bind fun bt155 => (if 0 ≤ (wrap64 ((wrap64 ((ji11) + t154)) + bt155.2)) then (if (wrap64 ((wrap64 ((ji11) + t154)) + bt155.2)) ≤ (a0.size : Int) then (if t152 = 0 then (some (0, 0, 0, 0, (⟨#[]⟩ : ByteArray), false)) else (if t154 = 0 then (some (0, 0, 0, 0, (⟨#[]⟩ : ByteArray), false)) else (if bt155.2 = 0 then (some (0, 0, 0, 0, (⟨#[]⟩ : ByteArray), false)) else ((spec_ShowRec.f kj1 (wrap64 (bt a0 0)) t151 t153 (wrap64 (bt155.1 - 1)) (a0.extract ((wrap64 ((wrap64 ((ji11) + t154)) + bt155.2)) : Int).toNat a0.size)).bind fun t157 => (if t157.toList = a0.toList then (some (wrap64 (bt a0 0), t151, t153, wrap64 (bt155.1 - 1), a0.extract ((wrap64 ((wrap64 ((ji11) + t154)) + bt155.2)) : Int).toNat a0.size, true)) else (some (0, 0, 0, 0, (⟨#[]⟩ : ByteArray), false))))))) else (none)) else (none))) else (none)) else (none)) = some (r1, r2, r3, r4, r5, r6) := H
        have A14 := Aside0.mk A140
        clear A140
        obtain ⟨ji15, hji15⟩ : ∃ j_ : Int, (wrap64 ((ji11) + t154)) = j_ := ⟨_, rfl⟩
        replace H : (if 0 ≤ (ji15) then (if (ji15) ≤ (a0.size : Int) then ((spec_ReadVar.f kj1 (a0.extract ((ji15) : Int).toNat a0.size)).bind fun bt155 => (if 0 ≤ (wrap64 ((ji15) + bt155.2)) then (if (wrap64 ((ji15) + bt155.2)) ≤ (a0.size : Int) then (if t152 = 0 then (some (0, 0, 0, 0, (⟨#[]⟩ : ByteArray), false)) else (if t154 = 0 then (some (0, 0, 0, 0, (⟨#[]⟩ : ByteArray), false)) else (if bt155.2 = 0 then (some (0, 0, 0, 0, (⟨#[]⟩ : ByteArray), false)) else ((spec_ShowRec.f kj1 (wrap64 (bt a0 0)) t151 t153 (wrap64 (bt155.1 - 1)) (a0.extract ((wrap64 ((ji15) + bt155.2)) : Int).toNat a0.size)).bind fun t157 => (if t157.toList = a0.toList then (some (wrap64 (bt a0 0), t151, t153, wrap64 (bt155.1 - 1), a0.extract ((wrap64 ((ji15) + bt155.2)) : Int).toNat a0.size, true)) else (some (0, 0, 0, 0, (⟨#[]⟩ : ByteArray), false))))))) else (none)) else (none))) else (none)) else (none)) = some (r1, r2, r3, r4, r5, r6) := by first | (rw [hji15] at H; exact H) | (simp only [hji15] at H ⊢; exact H)
        (try rw [hji15] at A10)
        (try rw [hji15] at A14)
        have hji15w : (IntKind.i64.wrap ((ji11) + t154)) = ji15 := (i64_w _).trans hji15
        by_cases c16 : 0 ≤ (ji15)
        ·rw [if_pos c16] at H
         have c16b0 := eq_true c16
         have c16b1 : decide (0 ≤ (ji15)) = true := decide_eq_true c16
         clear c16
         by_cases c17 : (ji15) ≤ (a0.size : Int)
         ·rw [if_pos c17] at H
          have c17b0 := eq_true c17
          have c17b1 : decide ((ji15) ≤ (a0.size : Int)) = true := decide_eq_true c17
          clear c17
          replace H := Option.bind_eq_some_iff.mp H
          obtain ⟨⟨t155, t156⟩, A180, H⟩ := H
          replace H : (if 0 ≤ (wrap64 ((ji15) + t156)) then (if (wrap64 ((ji15) + t156)) ≤ (a0.size : Int) then (if t152 = 0 then (some (0, 0, 0, 0, (⟨#[]⟩ : ByteArray), false)) else (if t154 = 0 then (some (0, 0, 0, 0, (⟨#[]⟩ : ByteArray), false)) else (if t156 = 0 then (some (0, 0, 0, 0, (⟨#[]⟩ : ByteArray), false)) else ((spec_ShowRec.f kj1 (wrap64 (bt a0 0)) t151 t153 (wrap64 (t155 - 1)) (a0.extract ((wrap64 ((ji15) + t156)) : Int).toNat a0.size)).bind fun t157 => (if t157.toList = a0.toList then (some (wrap64 (bt a0 0), t151, t153, wrap64 (t155 - 1), a0.extract ((wrap64 ((ji15) + t156)) : Int).toNat a0.size, true)) else (some (0, 0, 0, 0, (⟨#[]⟩ : ByteArray), false))))))) else (none)) else (none)) = some (r1, r2, r3, r4, r5, r6) := H
          have A18 := Aside0.mk A180
          clear A180
          obtain ⟨ji19, hji19⟩ : ∃ j_ : Int, (wrap64 ((ji15) + t156)) = j_ := ⟨_, rfl⟩
          replace H : (if 0 ≤ (ji19) then (if (ji19) ≤ (a0.size : Int) then (if t152 = 0 then (some (0, 0, 0, 0, (⟨#[]⟩ : ByteArray), false)) else (if t154 = 0 then (some (0, 0, 0, 0, (⟨#[]⟩ : ByteArray), false)) else (if t156 = 0 then (some (0, 0, 0, 0, (⟨#[]⟩ : ByteArray), false)) else ((spec_ShowRec.f kj1 (wrap64 (bt a0 0)) t151 t153 (wrap64 (t155 - 1)) (a0.extract ((ji19) : Int).toNat a0.size)).bind fun t157 => (if t157.toList = a0.toList then (some (wrap64 (bt a0 0), t151, t153, wrap64 (t155 - 1), a0.extract ((ji19) : Int).toNat a0.size, true)) else (some (0, 0, 0, 0, (⟨#[]⟩ : ByteArray), false))))))) else (none)) else (none)) = some (r1, r2, r3, r4, r5, r6) := by first | (rw [hji19] at H; exact H) | (simp only [hji19] at H ⊢; exact H)
          (try rw [hji19] at A10)
          (try rw [hji19] at A14)
          (try rw [hji19] at A18)
          have hji19w : (IntKind.i64.wrap ((ji15) + t156)) = ji19 := (i64_w _).trans hji19
          by_cases c20 : 0 ≤ (ji19)
          ·rw [if_pos c20] at H
           have c20b0 := eq_true c20
           have c20b1 : decide (0 ≤ (ji19)) = true := decide_eq_true c20
           clear c20
           by_cases c21 : (ji19) ≤ (a0.size : Int)
           ·rw [if_pos c21] at H
            have c21b0 := eq_true c21
            have c21b1 : decide ((ji19) ≤ (a0.size : Int)) = true := decide_eq_true c21
            clear c21
            by_cases c22 : t152 = 0
            ·rw [if_pos c22] at H
             have c22b0 : (t152 == 0) = true := beq_iff_eq.mpr c22
             have c22b1 : (t152 != 0) = false := bne_eq_false_iff_eq.mpr c22
             clear c22
             simp only [Option.some.injEq, Prod.mk.injEq] at H
             obtain ⟨rfl, rfl, rfl, rfl, rfl, rfl⟩ := H
             have p8 : 0 ≤ (0 : Int) := (by omega)
             have q8 : 0 < a0.size := (by have : (0 : Int) < (a0.size : Int) := of_decide_eq_true am; omega)
             have hx8 : ∀ h : 0 < a0.size, ((a0[0]'h).toNat : Int) = bt a0 0 := bt_at a0 0
             clear p8
             have qi8 : (0 < (a0.size : Int)) = True := eq_true (of_decide_eq_true am)
             replace q8 := eq_true q8
             go_wp2_with (first | ((with_reducible refine gD 4 rfl ?_); (try (refine gate_guard rfl ?_; dsimp only)); refine boxZ 4 #[.int .i64 0, .int .i64 0, .int .i64 0, .int .i64 0, .string (⟨#[]⟩ : ByteArray)] 34 ?_; intro gb150 hg w23 hbox hb; have BK150 := Aside0.mk hbox; have GW150 := gw (w := w) hg; have GE150 := gw (w := w) hg; replace HB := bs (w := w) hb; have NB149_150 := nl BK149 hg; have NB150_149 := nr BK149 hg; replace BK149 := bv BK149 hb; clear hb hbox hg; have hnb24 := NB150_149.out; have hnc24 := NB149_150.out; obtain ⟨Z25_0, Z25_1, Z25_2, Z25_3, Z25_4, Y25_0, Y25_1, Y25_2, Y25_3, Y25_4⟩ := cf5 BK150) | ((with_reducible refine gC 19 rfl ?_); refine goesZ (some 29) rfl Try.func19 #[.string (a0.extract 1 a0.size)] ?_; (with_reducible refine (spec_ReadVar.calls kj1 (a0.extract 1 a0.size) t151 t152 _ A10.out).mono ?_); rintro e w26 ⟨rfl, hb⟩; refine ⟨_, rfl, ?_⟩; replace BK149 := Aside0.mk (blk_below (g := gb149) (o := .cells #[.int .i64 0, .int .i64 0, .int .i64 0, .int .i64 0, .string (⟨#[]⟩ : ByteArray)] 34 (0, 0)) bkk hb); replace BK150 := Aside0.mk (blk_below (g := gb150) (o := .cells #[.int .i64 (wrap64 (bt a0 0)), .int .i64 0, .int .i64 0, .int .i64 0, .string (⟨#[]⟩ : ByteArray)] 34 (0, 0)) bkk hb); replace HB := bs (w := w) hb; (try clear hb)) | ((with_reducible refine gC 19 rfl ?_); refine goesL_ (some 39) rfl rfl Try.func19 (by kernel_rfl) rfl #[.string (a0.extract ((ji11) : Int).toNat a0.size)] rfl (by (try simp only [List.map_toArray, List.map_cons, List.map_nil]); first | done | (simp only [hji11]; rfl) | rfl | (simp only [List.length_drop, List.length_take]; rfl)) ?_; (with_reducible refine (spec_ReadVar.calls kj1 (a0.extract ((ji11) : Int).toNat a0.size) t153 t154 _ A14.out).mono ?_); rintro e w27 ⟨rfl, hb⟩; refine ⟨_, rfl, ?_⟩; replace BK149 := bv BK149 hb; replace BK150 := bv BK150 hb; replace HB := bs (w := w) hb; (try clear hb)) | ((with_reducible refine gC 19 rfl ?_); refine goesL_ (some 49) rfl rfl Try.func19 (by kernel_rfl) rfl #[.string (a0.extract ((ji15) : Int).toNat a0.size)] rfl (by (try simp only [List.map_toArray, List.map_cons, List.map_nil]); first | done | (simp only [hji15]; rfl) | rfl | (simp only [List.length_drop, List.length_take]; rfl)) ?_; (with_reducible refine (spec_ReadVar.calls kj1 (a0.extract ((ji15) : Int).toNat a0.size) t155 t156 _ A18.out).mono ?_); rintro e w28 ⟨rfl, hb⟩; refine ⟨_, rfl, ?_⟩; replace BK149 := bv BK149 hb; replace BK150 := bv BK150 hb; replace HB := bs (w := w) hb; (try clear hb); obtain ⟨Z29_0, Z29_1, Z29_2, Z29_3, Z29_4, Y29_0, Y29_1, Y29_2, Y29_3, Y29_4⟩ := cf5 BK150; obtain ⟨Z30_0, Z30_1, Z30_2, Z30_3, Z30_4, Y30_0, Y30_1, Y30_2, Y30_3, Y30_4⟩ := cf5 BK149))
             refine bodyPost_ret (results_ct rfl _ _ gb149 34 #[.int .i64 0, .int .i64 0, .int .i64 0, .int .i64 0, .string (⟨#[]⟩ : ByteArray)] (0, 0) _ rfl bkk Try.underlying34 rfl (by kernel_rfl)) rfl ?_
             exact ⟨by first | rfl | (simp [errW_none, errW_some] <;> rfl) | (simp only [← hji11, ← hji15, ← hji19]; first | rfl | (simp [errW_none, errW_some] <;> rfl)) | (simp [*, errW_none, errW_some] <;> rfl), bl⟩
            ·rw [if_neg c22] at H
             have c22b0 : (t152 == 0) = false := beq_eq_false_iff_ne.mpr c22
             have c22b1 : (t152 != 0) = true := bne_iff_ne.mpr c22
             by_cases c31 : t154 = 0
             ·rw [if_pos c31] at H
              have c31b0 : (t154 == 0) = true := beq_iff_eq.mpr c31
              have c31b1 : (t154 != 0) = false := bne_eq_false_iff_eq.mpr c31
              clear c31
              simp only [Option.some.injEq, Prod.mk.injEq] at H
              obtain ⟨rfl, rfl, rfl, rfl, rfl, rfl⟩ := H
              have p8 : 0 ≤ (0 : Int) := (by omega)
              have q8 : 0 < a0.size := (by have : (0 : Int) < (a0.size : Int) := of_decide_eq_true am; omega)
              have hx8 : ∀ h : 0 < a0.size, ((a0[0]'h).toNat : Int) = bt a0 0 := bt_at a0 0
              clear p8
              have qi8 : (0 < (a0.size : Int)) = True := eq_true (of_decide_eq_true am)
              replace q8 := eq_true q8
              go_wp2_with (first | ((with_reducible refine gD 4 rfl ?_); (try (refine gate_guard rfl ?_; dsimp only)); refine boxZ 4 #[.int .i64 0, .int .i64 0, .int .i64 0, .int .i64 0, .string (⟨#[]⟩ : ByteArray)] 34 ?_; intro gb150 hg w32 hbox hb; have BK150 := Aside0.mk hbox; have GW150 := gw (w := w) hg; have GE150 := gw (w := w) hg; replace HB := bs (w := w) hb; have NB149_150 := nl BK149 hg; have NB150_149 := nr BK149 hg; replace BK149 := bv BK149 hb; clear hb hbox hg; have hnb33 := NB150_149.out; have hnc33 := NB149_150.out; obtain ⟨Z34_0, Z34_1, Z34_2, Z34_3, Z34_4, Y34_0, Y34_1, Y34_2, Y34_3, Y34_4⟩ := cf5 BK150) | ((with_reducible refine gC 19 rfl ?_); refine goesZ (some 29) rfl Try.func19 #[.string (a0.extract 1 a0.size)] ?_; (with_reducible refine (spec_ReadVar.calls kj1 (a0.extract 1 a0.size) t151 t152 _ A10.out).mono ?_); rintro e w35 ⟨rfl, hb⟩; refine ⟨_, rfl, ?_⟩; replace BK149 := Aside0.mk (blk_below (g := gb149) (o := .cells #[.int .i64 0, .int .i64 0, .int .i64 0, .int .i64 0, .string (⟨#[]⟩ : ByteArray)] 34 (0, 0)) bkk hb); replace BK150 := Aside0.mk (blk_below (g := gb150) (o := .cells #[.int .i64 (wrap64 (bt a0 0)), .int .i64 0, .int .i64 0, .int .i64 0, .string (⟨#[]⟩ : ByteArray)] 34 (0, 0)) bkk hb); replace HB := bs (w := w) hb; (try clear hb)) | ((with_reducible refine gC 19 rfl ?_); refine goesL_ (some 39) rfl rfl Try.func19 (by kernel_rfl) rfl #[.string (a0.extract ((ji11) : Int).toNat a0.size)] rfl (by (try simp only [List.map_toArray, List.map_cons, List.map_nil]); first | done | (simp only [hji11]; rfl) | rfl | (simp only [List.length_drop, List.length_take]; rfl)) ?_; (with_reducible refine (spec_ReadVar.calls kj1 (a0.extract ((ji11) : Int).toNat a0.size) t153 t154 _ A14.out).mono ?_); rintro e w36 ⟨rfl, hb⟩; refine ⟨_, rfl, ?_⟩; replace BK149 := bv BK149 hb; replace BK150 := bv BK150 hb; replace HB := bs (w := w) hb; (try clear hb)) | ((with_reducible refine gC 19 rfl ?_); refine goesL_ (some 49) rfl rfl Try.func19 (by kernel_rfl) rfl #[.string (a0.extract ((ji15) : Int).toNat a0.size)] rfl (by (try simp only [List.map_toArray, List.map_cons, List.map_nil]); first | done | (simp only [hji15]; rfl) | rfl | (simp only [List.length_drop, List.length_take]; rfl)) ?_; (with_reducible refine (spec_ReadVar.calls kj1 (a0.extract ((ji15) : Int).toNat a0.size) t155 t156 _ A18.out).mono ?_); rintro e w37 ⟨rfl, hb⟩; refine ⟨_, rfl, ?_⟩; replace BK149 := bv BK149 hb; replace BK150 := bv BK150 hb; replace HB := bs (w := w) hb; (try clear hb); obtain ⟨Z38_0, Z38_1, Z38_2, Z38_3, Z38_4, Y38_0, Y38_1, Y38_2, Y38_3, Y38_4⟩ := cf5 BK150; obtain ⟨Z39_0, Z39_1, Z39_2, Z39_3, Z39_4, Y39_0, Y39_1, Y39_2, Y39_3, Y39_4⟩ := cf5 BK149))
              refine bodyPost_ret (results_ct rfl _ _ gb149 34 #[.int .i64 0, .int .i64 0, .int .i64 0, .int .i64 0, .string (⟨#[]⟩ : ByteArray)] (0, 0) _ rfl bkk Try.underlying34 rfl (by kernel_rfl)) rfl ?_
              exact ⟨by first | rfl | (simp [errW_none, errW_some] <;> rfl) | (simp only [← hji11, ← hji15, ← hji19]; first | rfl | (simp [errW_none, errW_some] <;> rfl)) | (simp [*, errW_none, errW_some] <;> rfl), bl⟩
             ·rw [if_neg c31] at H
              have c31b0 : (t154 == 0) = false := beq_eq_false_iff_ne.mpr c31
              have c31b1 : (t154 != 0) = true := bne_iff_ne.mpr c31
              by_cases c40 : t156 = 0
              ·rw [if_pos c40] at H
               have c40b0 : (t156 == 0) = true := beq_iff_eq.mpr c40
               have c40b1 : (t156 != 0) = false := bne_eq_false_iff_eq.mpr c40
               clear c40
               simp only [Option.some.injEq, Prod.mk.injEq] at H
               obtain ⟨rfl, rfl, rfl, rfl, rfl, rfl⟩ := H
               have p8 : 0 ≤ (0 : Int) := (by omega)
               have q8 : 0 < a0.size := (by have : (0 : Int) < (a0.size : Int) := of_decide_eq_true am; omega)
               have hx8 : ∀ h : 0 < a0.size, ((a0[0]'h).toNat : Int) = bt a0 0 := bt_at a0 0
               clear p8
               have qi8 : (0 < (a0.size : Int)) = True := eq_true (of_decide_eq_true am)
               replace q8 := eq_true q8
               go_wp2_with (first | ((with_reducible refine gD 4 rfl ?_); (try (refine gate_guard rfl ?_; dsimp only)); refine boxZ 4 #[.int .i64 0, .int .i64 0, .int .i64 0, .int .i64 0, .string (⟨#[]⟩ : ByteArray)] 34 ?_; intro gb150 hg w41 hbox hb; have BK150 := Aside0.mk hbox; have GW150 := gw (w := w) hg; have GE150 := gw (w := w) hg; replace HB := bs (w := w) hb; have NB149_150 := nl BK149 hg; have NB150_149 := nr BK149 hg; replace BK149 := bv BK149 hb; clear hb hbox hg; have hnb42 := NB150_149.out; have hnc42 := NB149_150.out; obtain ⟨Z43_0, Z43_1, Z43_2, Z43_3, Z43_4, Y43_0, Y43_1, Y43_2, Y43_3, Y43_4⟩ := cf5 BK150) | ((with_reducible refine gC 19 rfl ?_); refine goesZ (some 29) rfl Try.func19 #[.string (a0.extract 1 a0.size)] ?_; (with_reducible refine (spec_ReadVar.calls kj1 (a0.extract 1 a0.size) t151 t152 _ A10.out).mono ?_); rintro e w44 ⟨rfl, hb⟩; refine ⟨_, rfl, ?_⟩; replace BK149 := Aside0.mk (blk_below (g := gb149) (o := .cells #[.int .i64 0, .int .i64 0, .int .i64 0, .int .i64 0, .string (⟨#[]⟩ : ByteArray)] 34 (0, 0)) bkk hb); replace BK150 := Aside0.mk (blk_below (g := gb150) (o := .cells #[.int .i64 (wrap64 (bt a0 0)), .int .i64 0, .int .i64 0, .int .i64 0, .string (⟨#[]⟩ : ByteArray)] 34 (0, 0)) bkk hb); replace HB := bs (w := w) hb; (try clear hb)) | ((with_reducible refine gC 19 rfl ?_); refine goesL_ (some 39) rfl rfl Try.func19 (by kernel_rfl) rfl #[.string (a0.extract ((ji11) : Int).toNat a0.size)] rfl (by (try simp only [List.map_toArray, List.map_cons, List.map_nil]); first | done | (simp only [hji11]; rfl) | rfl | (simp only [List.length_drop, List.length_take]; rfl)) ?_; (with_reducible refine (spec_ReadVar.calls kj1 (a0.extract ((ji11) : Int).toNat a0.size) t153 t154 _ A14.out).mono ?_); rintro e w45 ⟨rfl, hb⟩; refine ⟨_, rfl, ?_⟩; replace BK149 := bv BK149 hb; replace BK150 := bv BK150 hb; replace HB := bs (w := w) hb; (try clear hb)) | ((with_reducible refine gC 19 rfl ?_); refine goesL_ (some 49) rfl rfl Try.func19 (by kernel_rfl) rfl #[.string (a0.extract ((ji15) : Int).toNat a0.size)] rfl (by (try simp only [List.map_toArray, List.map_cons, List.map_nil]); first | done | (simp only [hji15]; rfl) | rfl | (simp only [List.length_drop, List.length_take]; rfl)) ?_; (with_reducible refine (spec_ReadVar.calls kj1 (a0.extract ((ji15) : Int).toNat a0.size) t155 t156 _ A18.out).mono ?_); rintro e w46 ⟨rfl, hb⟩; refine ⟨_, rfl, ?_⟩; replace BK149 := bv BK149 hb; replace BK150 := bv BK150 hb; replace HB := bs (w := w) hb; (try clear hb); obtain ⟨Z47_0, Z47_1, Z47_2, Z47_3, Z47_4, Y47_0, Y47_1, Y47_2, Y47_3, Y47_4⟩ := cf5 BK150; obtain ⟨Z48_0, Z48_1, Z48_2, Z48_3, Z48_4, Y48_0, Y48_1, Y48_2, Y48_3, Y48_4⟩ := cf5 BK149))
               refine bodyPost_ret (results_ct rfl _ _ gb149 34 #[.int .i64 0, .int .i64 0, .int .i64 0, .int .i64 0, .string (⟨#[]⟩ : ByteArray)] (0, 0) _ rfl bkk Try.underlying34 rfl (by kernel_rfl)) rfl ?_
               exact ⟨by first | rfl | (simp [errW_none, errW_some] <;> rfl) | (simp only [← hji11, ← hji15, ← hji19]; first | rfl | (simp [errW_none, errW_some] <;> rfl)) | (simp [*, errW_none, errW_some] <;> rfl), bl⟩
              ·rw [if_neg c40] at H
               have c40b0 : (t156 == 0) = false := beq_eq_false_iff_ne.mpr c40
               have c40b1 : (t156 != 0) = true := bne_iff_ne.mpr c40
               obtain ⟨t157, A49, H⟩ := bd H
               by_cases c50 : t157.toList = a0.toList
               ·rw [if_pos c50] at H
                have c50b0 : (t157.toList == a0.toList) = true := beq_iff_eq.mpr c50
                have c50b1 : (t157.toList != a0.toList) = false := bne_eq_false_iff_eq.mpr c50
                clear c50
                simp only [Option.some.injEq, Prod.mk.injEq] at H
                obtain ⟨rfl, rfl, rfl, rfl, rfl, rfl⟩ := H
                have p8 : 0 ≤ (0 : Int) := (by omega)
                have q8 : 0 < a0.size := (by have : (0 : Int) < (a0.size : Int) := of_decide_eq_true am; omega)
                have hx8 : ∀ h : 0 < a0.size, ((a0[0]'h).toNat : Int) = bt a0 0 := bt_at a0 0
                clear p8
                have qi8 : (0 < (a0.size : Int)) = True := eq_true (of_decide_eq_true am)
                replace q8 := eq_true q8
                go_wp2_with (first | ((with_reducible refine gD 4 rfl ?_); (try (refine gate_guard rfl ?_; dsimp only)); refine boxZ 4 #[.int .i64 0, .int .i64 0, .int .i64 0, .int .i64 0, .string (⟨#[]⟩ : ByteArray)] 34 ?_; intro gb150 hg w51 hbox hb; have BK150 := Aside0.mk hbox; have GW150 := gw (w := w) hg; have GE150 := gw (w := w) hg; replace HB := bs (w := w) hb; have NB149_150 := nl BK149 hg; have NB150_149 := nr BK149 hg; replace BK149 := bv BK149 hb; clear hb hbox hg; have hnb52 := NB150_149.out; have hnc52 := NB149_150.out; obtain ⟨Z53_0, Z53_1, Z53_2, Z53_3, Z53_4, Y53_0, Y53_1, Y53_2, Y53_3, Y53_4⟩ := cf5 BK150) | ((with_reducible refine gC 19 rfl ?_); refine goesZ (some 29) rfl Try.func19 #[.string (a0.extract 1 a0.size)] ?_; (with_reducible refine (spec_ReadVar.calls kj1 (a0.extract 1 a0.size) t151 t152 _ A10.out).mono ?_); rintro e w54 ⟨rfl, hb⟩; refine ⟨_, rfl, ?_⟩; replace BK149 := Aside0.mk (blk_below (g := gb149) (o := .cells #[.int .i64 0, .int .i64 0, .int .i64 0, .int .i64 0, .string (⟨#[]⟩ : ByteArray)] 34 (0, 0)) bkk hb); replace BK150 := Aside0.mk (blk_below (g := gb150) (o := .cells #[.int .i64 (wrap64 (bt a0 0)), .int .i64 0, .int .i64 0, .int .i64 0, .string (⟨#[]⟩ : ByteArray)] 34 (0, 0)) bkk hb); replace HB := bs (w := w) hb; (try clear hb)) | ((with_reducible refine gC 19 rfl ?_); refine goesL_ (some 39) rfl rfl Try.func19 (by kernel_rfl) rfl #[.string (a0.extract ((ji11) : Int).toNat a0.size)] rfl (by (try simp only [List.map_toArray, List.map_cons, List.map_nil]); first | done | (simp only [hji11]; rfl) | rfl | (simp only [List.length_drop, List.length_take]; rfl)) ?_; (with_reducible refine (spec_ReadVar.calls kj1 (a0.extract ((ji11) : Int).toNat a0.size) t153 t154 _ A14.out).mono ?_); rintro e w55 ⟨rfl, hb⟩; refine ⟨_, rfl, ?_⟩; replace BK149 := bv BK149 hb; replace BK150 := bv BK150 hb; replace HB := bs (w := w) hb; (try clear hb)) | ((with_reducible refine gC 19 rfl ?_); refine goesL_ (some 49) rfl rfl Try.func19 (by kernel_rfl) rfl #[.string (a0.extract ((ji15) : Int).toNat a0.size)] rfl (by (try simp only [List.map_toArray, List.map_cons, List.map_nil]); first | done | (simp only [hji15]; rfl) | rfl | (simp only [List.length_drop, List.length_take]; rfl)) ?_; (with_reducible refine (spec_ReadVar.calls kj1 (a0.extract ((ji15) : Int).toNat a0.size) t155 t156 _ A18.out).mono ?_); rintro e w56 ⟨rfl, hb⟩; refine ⟨_, rfl, ?_⟩; replace BK149 := bv BK149 hb; replace BK150 := bv BK150 hb; replace HB := bs (w := w) hb; (try clear hb); obtain ⟨Z57_0, Z57_1, Z57_2, Z57_3, Z57_4, Y57_0, Y57_1, Y57_2, Y57_3, Y57_4⟩ := cf5 BK150) | (go_at_call 20; (with_reducible refine (spec_ShowRec.calls kj1 (wrap64 (bt a0 0)) t151 t153 (wrap64 (t155 - 1)) (a0.extract ((ji19) : Int).toNat a0.size) t157 _ A49.out).mono ?_); rintro e w58 ⟨rfl, hb⟩; replace BK149 := Aside0.mk (blk_below (g := gb149) (o := .cells #[.int .i64 0, .int .i64 0, .int .i64 0, .int .i64 0, .string (⟨#[]⟩ : ByteArray)] 34 (0, 0)) bkk hb); replace BK150 := Aside0.mk (blk_below (g := gb150) (o := .cells #[.int .i64 (wrap64 (bt a0 0)), .int .i64 t151, .int .i64 t153, .int .i64 (wrap64 (t155 - 1)), .string (a0.extract ((ji19) : Int).toNat a0.size)] 34 (0, 0)) bkk hb); replace HB := bs (w := w) hb; (try clear hb); obtain ⟨Z59_0, Z59_1, Z59_2, Z59_3, Z59_4, Y59_0, Y59_1, Y59_2, Y59_3, Y59_4⟩ := cf5 BK150; obtain ⟨Z60_0, Z60_1, Z60_2, Z60_3, Z60_4, Y60_0, Y60_1, Y60_2, Y60_3, Y60_4⟩ := cf5 BK149))
                refine bodyPost_ret (results_ct rfl _ _ gb149 34 #[.int .i64 (wrap64 (bt a0 0)), .int .i64 t151, .int .i64 t153, .int .i64 (wrap64 (t155 - 1)), .string (a0.extract ((ji19) : Int).toNat a0.size)] (0, 0) _ rfl bkk Try.underlying34 rfl (by kernel_rfl)) rfl ?_
                exact ⟨by first | rfl | (simp [errW_none, errW_some] <;> rfl) | (simp only [← hji11, ← hji15, ← hji19]; first | rfl | (simp [errW_none, errW_some] <;> rfl)) | (simp [*, errW_none, errW_some] <;> rfl), bl⟩
               ·rw [if_neg c50] at H
                have c50b0 : (t157.toList == a0.toList) = false := beq_eq_false_iff_ne.mpr c50
                have c50b1 : (t157.toList != a0.toList) = true := bne_iff_ne.mpr c50
                simp only [Option.some.injEq, Prod.mk.injEq] at H
                obtain ⟨rfl, rfl, rfl, rfl, rfl, rfl⟩ := H
                have p8 : 0 ≤ (0 : Int) := (by omega)
                have q8 : 0 < a0.size := (by have : (0 : Int) < (a0.size : Int) := of_decide_eq_true am; omega)
                have hx8 : ∀ h : 0 < a0.size, ((a0[0]'h).toNat : Int) = bt a0 0 := bt_at a0 0
                clear p8
                have qi8 : (0 < (a0.size : Int)) = True := eq_true (of_decide_eq_true am)
                replace q8 := eq_true q8
                go_wp2_with (first | ((with_reducible refine gD 4 rfl ?_); (try (refine gate_guard rfl ?_; dsimp only)); refine boxZ 4 #[.int .i64 0, .int .i64 0, .int .i64 0, .int .i64 0, .string (⟨#[]⟩ : ByteArray)] 34 ?_; intro gb150 hg w61 hbox hb; have BK150 := Aside0.mk hbox; have GW150 := gw (w := w) hg; have GE150 := gw (w := w) hg; replace HB := bs (w := w) hb; have NB149_150 := nl BK149 hg; have NB150_149 := nr BK149 hg; replace BK149 := bv BK149 hb; clear hb hbox hg; have hnb62 := NB150_149.out; have hnc62 := NB149_150.out; obtain ⟨Z63_0, Z63_1, Z63_2, Z63_3, Z63_4, Y63_0, Y63_1, Y63_2, Y63_3, Y63_4⟩ := cf5 BK150) | ((with_reducible refine gC 19 rfl ?_); refine goesZ (some 29) rfl Try.func19 #[.string (a0.extract 1 a0.size)] ?_; (with_reducible refine (spec_ReadVar.calls kj1 (a0.extract 1 a0.size) t151 t152 _ A10.out).mono ?_); rintro e w64 ⟨rfl, hb⟩; refine ⟨_, rfl, ?_⟩; replace BK149 := Aside0.mk (blk_below (g := gb149) (o := .cells #[.int .i64 0, .int .i64 0, .int .i64 0, .int .i64 0, .string (⟨#[]⟩ : ByteArray)] 34 (0, 0)) bkk hb); replace BK150 := Aside0.mk (blk_below (g := gb150) (o := .cells #[.int .i64 (wrap64 (bt a0 0)), .int .i64 0, .int .i64 0, .int .i64 0, .string (⟨#[]⟩ : ByteArray)] 34 (0, 0)) bkk hb); replace HB := bs (w := w) hb; (try clear hb)) | ((with_reducible refine gC 19 rfl ?_); refine goesL_ (some 39) rfl rfl Try.func19 (by kernel_rfl) rfl #[.string (a0.extract ((ji11) : Int).toNat a0.size)] rfl (by (try simp only [List.map_toArray, List.map_cons, List.map_nil]); first | done | (simp only [hji11]; rfl) | rfl | (simp only [List.length_drop, List.length_take]; rfl)) ?_; (with_reducible refine (spec_ReadVar.calls kj1 (a0.extract ((ji11) : Int).toNat a0.size) t153 t154 _ A14.out).mono ?_); rintro e w65 ⟨rfl, hb⟩; refine ⟨_, rfl, ?_⟩; replace BK149 := bv BK149 hb; replace BK150 := bv BK150 hb; replace HB := bs (w := w) hb; (try clear hb)) | ((with_reducible refine gC 19 rfl ?_); refine goesL_ (some 49) rfl rfl Try.func19 (by kernel_rfl) rfl #[.string (a0.extract ((ji15) : Int).toNat a0.size)] rfl (by (try simp only [List.map_toArray, List.map_cons, List.map_nil]); first | done | (simp only [hji15]; rfl) | rfl | (simp only [List.length_drop, List.length_take]; rfl)) ?_; (with_reducible refine (spec_ReadVar.calls kj1 (a0.extract ((ji15) : Int).toNat a0.size) t155 t156 _ A18.out).mono ?_); rintro e w66 ⟨rfl, hb⟩; refine ⟨_, rfl, ?_⟩; replace BK149 := bv BK149 hb; replace BK150 := bv BK150 hb; replace HB := bs (w := w) hb; (try clear hb); obtain ⟨Z67_0, Z67_1, Z67_2, Z67_3, Z67_4, Y67_0, Y67_1, Y67_2, Y67_3, Y67_4⟩ := cf5 BK150) | (go_at_call 20; (with_reducible refine (spec_ShowRec.calls kj1 (wrap64 (bt a0 0)) t151 t153 (wrap64 (t155 - 1)) (a0.extract ((ji19) : Int).toNat a0.size) t157 _ A49.out).mono ?_); rintro e w68 ⟨rfl, hb⟩; replace BK149 := Aside0.mk (blk_below (g := gb149) (o := .cells #[.int .i64 0, .int .i64 0, .int .i64 0, .int .i64 0, .string (⟨#[]⟩ : ByteArray)] 34 (0, 0)) bkk hb); replace BK150 := Aside0.mk (blk_below (g := gb150) (o := .cells #[.int .i64 (wrap64 (bt a0 0)), .int .i64 t151, .int .i64 t153, .int .i64 (wrap64 (t155 - 1)), .string (a0.extract ((ji19) : Int).toNat a0.size)] 34 (0, 0)) bkk hb); replace HB := bs (w := w) hb; (try clear hb); obtain ⟨Z69_0, Z69_1, Z69_2, Z69_3, Z69_4, Y69_0, Y69_1, Y69_2, Y69_3, Y69_4⟩ := cf5 BK149))
                refine bodyPost_ret (results_ct rfl _ _ gb149 34 #[.int .i64 0, .int .i64 0, .int .i64 0, .int .i64 0, .string (⟨#[]⟩ : ByteArray)] (0, 0) _ rfl bkk Try.underlying34 rfl (by kernel_rfl)) rfl ?_
                exact ⟨by first | rfl | (simp [errW_none, errW_some] <;> rfl) | (simp only [← hji11, ← hji15, ← hji19]; first | rfl | (simp [errW_none, errW_some] <;> rfl)) | (simp [*, errW_none, errW_some] <;> rfl), bl⟩
           ·rw [if_neg c21] at H
            exact absurd H (by simp)
          ·rw [if_neg c20] at H
           exact absurd H (by simp)
         ·rw [if_neg c17] at H
          exact absurd H (by simp)
        ·rw [if_neg c16] at H
         exact absurd H (by simp)
       ·rw [if_neg c13] at H
        exact absurd H (by simp)
      ·rw [if_neg c12] at H
       exact absurd H (by simp)
     ·rw [if_neg c9] at H
      exact absurd H (by simp)
    ·rw [if_neg c7] at H
     exact absurd H (by simp)

end Go.Proofs.Ytflegbpgkkiijaa.PFnExactReplay
