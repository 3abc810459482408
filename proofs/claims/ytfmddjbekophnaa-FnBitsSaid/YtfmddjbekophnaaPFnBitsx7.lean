-- PRINTED by print.py (a twelfth state) out of the translation. Not trusted: Lean checks it.
import Derived.Test.YtfmddjbekophnaaPFnBitsx0
import Derived.Test.YtfmddjbekophnaaPFnBitsx2
import Derived.Test.YtfmddjbekophnaaPFnBitsx3
import Derived.Test.YtfmddjbekophnaaZip
namespace Go.Proofs.Ytfmddjbekophnaa.PFnBits
open Go.RowKit Go.Proofs.YtfmddjbekophnaaW.PrintWords Go.Proofs.YtfmddjbekophnaaW.PrintLast Go.Proofs.YtfmddjbekophnaaW.PrintMore Go.Proofs.Ytfmddjbekophnaa.Zip
attribute [local go_sem] max2_int min2_int max_two min_two max_three min_three max_four min_four   -- for this text's walks alone
set_option linter.unusedVariables false
set_option linter.unusedSimpArgs false

/-! ### spec_l1Spoil: function 92 -/
def spec_l1Spoil.f (k : Nat) (s0_0 : List Int) (s0_1 : Int) (s0_2 : Int) (a1 : ByteArray) : Option (ByteArray × Int × Int) := if (a1.size : Int) = 0 then ((spec_l1Text.f k s0_0 s0_1 s0_2 3).bind fun bt360 => (some (bt360.1, bt360.2.1, bt360.2.2))) else ((spec_l1Below.f s0_0 s0_1 s0_2 (a1.size : Int)).bind fun bt363 => ((spec_l1Below.f s0_0 bt363.2.1 bt363.2.2 4).bind fun bt366 => (if bt366.1 = 0 then (if 0 ≤ bt363.1 then (if bt363.1 ≤ (a1.size : Int) then (if 0 ≤ (wrap64 (bt363.1 + 1)) then (if (wrap64 (bt363.1 + 1)) ≤ (a1.size : Int) then (if (a1.extract 0 (bt363.1 : Int).toNat).size + (a1.extract ((wrap64 (bt363.1 + 1)) : Int).toNat a1.size).size ≤ 9223372036854775807 then (some ((a1.extract 0 (bt363.1 : Int).toNat) ++ (a1.extract ((wrap64 (bt363.1 + 1)) : Int).toNat a1.size), bt366.2.1, bt366.2.2)) else (none)) else (none)) else (none)) else (none)) else (none)) else (if bt366.1 = 1 then (if 0 ≤ bt363.1 then (if bt363.1 ≤ (a1.size : Int) then ((spec_l1Byte.f s0_0 bt366.2.1 bt366.2.2).bind fun bt369 => ((some (([(bt369.1) % 256] : List Int) : List Int)).bind fun y372 => (if (a1.extract 0 (bt363.1 : Int).toNat).size + (strOfNums y372).size ≤ 9223372036854775807 then (if ((a1.extract 0 (bt363.1 : Int).toNat).size + (strOfNums y372).size) + (a1.extract (bt363.1 : Int).toNat a1.size).size ≤ 9223372036854775807 then (some (((a1.extract 0 (bt363.1 : Int).toNat) ++ (strOfNums y372)) ++ (a1.extract (bt363.1 : Int).toNat a1.size), bt369.2.1, bt369.2.2)) else (none)) else (none)))) else (none)) else (none)) else (if bt366.1 = 2 then (if 0 ≤ bt363.1 then (if bt363.1 ≤ (a1.size : Int) then (some (a1.extract 0 (bt363.1 : Int).toNat, bt366.2.1, bt366.2.2)) else (none)) else (none)) else (if 0 ≤ bt363.1 then (if bt363.1 ≤ (a1.size : Int) then (if bt363.1 < (a1.size : Int) then ((spec_l1Below.f s0_0 bt366.2.1 bt366.2.2 255).bind fun bt375 => ((some (([(Go.bits .xor .i64 (wrap64 (bt a1 bt363.1)) (wrap64 (1 + bt375.1))) % 256] : List Int) : List Int)).bind fun y378 => (if (a1.extract 0 (bt363.1 : Int).toNat).size + (strOfNums y378).size ≤ 9223372036854775807 then (if 0 ≤ (wrap64 (bt363.1 + 1)) then (if (wrap64 (bt363.1 + 1)) ≤ (a1.size : Int) then (if ((a1.extract 0 (bt363.1 : Int).toNat).size + (strOfNums y378).size) + (a1.extract ((wrap64 (bt363.1 + 1)) : Int).toNat a1.size).size ≤ 9223372036854775807 then (some (((a1.extract 0 (bt363.1 : Int).toNat) ++ (strOfNums y378)) ++ (a1.extract ((wrap64 (bt363.1 + 1)) : Int).toNat a1.size), bt375.2.1, bt375.2.2)) else (none)) else (none)) else (none)) else (none)))) else (none)) else (none)) else (none)))))))
theorem spec_l1Spoil.mono : ∀ a0 a1 a2 a3 k, LeO (spec_l1Spoil.f k a0 a1 a2 a3) (spec_l1Spoil.f (k + 1) a0 a1 a2 a3) := by
 intro a0 a1 a2 a3 k
 unfold spec_l1Spoil.f
 repeat' first
  | (with_reducible exact spec_l1Text.mono _ _ _ _ _)
  | (with_reducible exact LeO.refl _)
  | (with_reducible exact LeO.none _)
  | (with_reducible refine LeO.ite ?_ ?_)
  | (with_reducible refine LeO.bind ?_ (fun _ => ?_))
  | exact spec_l1Text.mono _ _ _ _ _
  | exact LeO.none _
  | refine LeO.ite ?_ ?_
  | refine LeO.bind ?_ (fun _ => ?_)
def spec_l1Spoil.T6 : Bool × List (List Nat × List Nat) := (true, [([], []), ([], []), ([0, 1], [0, 1]), ([], []), ([], []), ([4], [4]), ([3, 5], [3, 5]), ([2, 6], [2, 6]), ([7, 0, 1, 2, 3, 4, 5, 6, 7], [7])])
def spec_l1Spoil.B6 : List Nat := [0, 0, 3, 0, 0, 16, 56, 127, 255]
theorem spec_l1Spoil.tab6 : rtab .any (opsOf Try.f92 6) = spec_l1Spoil.T6 := by kernel_rfl
theorem spec_l1Spoil.bits6 : waitsOk spec_l1Spoil.T6.2 spec_l1Spoil.B6 = true := by kernel_rfl
def spec_l1Spoil.T8 : Bool × List (List Nat × List Nat) := (true, [([], []), ([], []), ([0, 1], [0, 1]), ([], []), ([3], [3]), ([4], [4]), ([5], [5]), ([6], [6]), ([2, 7], [2, 7]), ([], []), ([], []), ([9, 10], [9, 10]), ([8, 11], [8, 11]), ([12, 4, 0, 1, 2, 3, 4, 5, 6, 7, 8, 9, 10, 11, 12], [12])])
def spec_l1Spoil.B8 : List Nat := [0, 0, 3, 0, 8, 24, 56, 120, 255, 0, 0, 1536, 4095, 8191]
theorem spec_l1Spoil.tab8 : rtab .any (opsOf Try.f92 8) = spec_l1Spoil.T8 := by kernel_rfl
theorem spec_l1Spoil.bits8 : waitsOk spec_l1Spoil.T8.2 spec_l1Spoil.B8 = true := by kernel_rfl
def spec_l1Spoil.T11 : Bool × List (List Nat × List Nat) := (true, [([], []), ([], []), ([0, 1], [0, 1]), ([], []), ([], []), ([3, 4], [3, 4]), ([5], [5]), ([], []), ([7], [7]), ([8], [8]), ([6, 9], [6, 9]), ([10], [10]), ([11], [11]), ([12], [12]), ([2, 13], [2, 13]), ([], []), ([], []), ([16], [16]), ([15, 17], [15, 17]), ([14, 18], [14, 18]), ([19, 8, 0, 1, 2, 3, 4, 5, 6, 7, 8, 9, 10, 11, 12, 13, 14, 15, 16, 17, 18, 19], [19])])
def spec_l1Spoil.B11 : List Nat := [0, 0, 3, 0, 0, 24, 56, 0, 128, 384, 1016, 2040, 4088, 8184, 16383, 0, 0, 65536, 229376, 524287, 1048575]
theorem spec_l1Spoil.tab11 : rtab .any (opsOf Try.f92 11) = spec_l1Spoil.T11 := by kernel_rfl
theorem spec_l1Spoil.bits11 : waitsOk spec_l1Spoil.T11.2 spec_l1Spoil.B11 = true := by kernel_rfl
set_option maxHeartbeats 8000000 in
set_option maxRecDepth 100000 in
theorem spec_l1Spoil.calls (k : Nat) (g : Nat) (s0_0 : List Int) (s0_1 : Int) (s0_2 : Int) (a1 : ByteArray) (r1 : ByteArray) (r2 : Int) (r3 : Int) (w0 w : World) (hI : IsS136 w0 w g s0_0 s0_1 s0_2) (hB : Below w0.heap.size w0 w) (h : spec_l1Spoil.f k s0_0 s0_1 s0_2 a1 = some (r1, r2, r3)) :
 Calls Try.prog 92 #[.pointer (some ⟨g, 0, none⟩), .string a1] w fun e w' => e = .returned (.string r1) ∧ IsS136 w0 w' g s0_0 r2 r3 ∧ Below w0.heap.size w0 w' ∧ KeepBut w w' g none := by
 have HI0 := Aside0.mk hI
 have HK := Aside0.mk (KeepBut.refl w g none)
 have HL := Aside0.mk hB.size
 clear hI
 have HW0 := Aside0.mk hB.size
 have HB := Aside0.mk hB
 clear hB
 have H : (if (a1.size : Int) = 0 then ((spec_l1Text.f k s0_0 s0_1 s0_2 3).bind fun bt360 => (some (bt360.1, bt360.2.1, bt360.2.2))) else ((spec_l1Below.f s0_0 s0_1 s0_2 (a1.size : Int)).bind fun bt363 => ((spec_l1Below.f s0_0 bt363.2.1 bt363.2.2 4).bind fun bt366 => (if bt366.1 = 0 then (if 0 ≤ bt363.1 then (if bt363.1 ≤ (a1.size : Int) then (if 0 ≤ (wrap64 (bt363.1 + 1)) then (if (wrap64 (bt363.1 + 1)) ≤ (a1.size : Int) then (if (a1.extract 0 (bt363.1 : Int).toNat).size + (a1.extract ((wrap64 (bt363.1 + 1)) : Int).toNat a1.size).size ≤ 9223372036854775807 then (some ((a1.extract 0 (bt363.1 : Int).toNat) ++ (a1.extract ((wrap64 (bt363.1 + 1)) : Int).toNat a1.size), bt366.2.1, bt366.2.2)) else (none)) else (none)) else (none)) else (none)) else (none)) else (if bt366.1 = 1 then (if 0 ≤ bt363.1 then (if bt363.1 ≤ (a1.size : Int) then ((spec_l1Byte.f s0_0 bt366.2.1 bt366.2.2).bind fun bt369 => ((some (([(bt369.1) % 256] : List Int) : List Int)).bind fun y372 => (if (a1.extract 0 (bt363.1 : Int).toNat).size + (strOfNums y372).size ≤ 9223372036854775807 then (if ((a1.extract 0 (bt363.1 : Int).toNat).size + (strOfNums y372).size) + (a1.extract (bt363.1 : Int).toNat a1.size).size ≤ 9223372036854775807 then (some (((a1.extract 0 (bt363.1 : Int).toNat) ++ (strOfNums y372)) ++ (a1.extract (bt363.1 : Int).toNat a1.size), bt369.2.1, bt369.2.2)) else (none)) else (none)))) else (none)) else (none)) else (if bt366.1 = 2 then (if 0 ≤ bt363.1 then (if bt363.1 ≤ (a1.size : Int) then (some (a1.extract 0 (bt363.1 : Int).toNat, bt366.2.1, bt366.2.2)) else (none)) else (none)) else (if 0 ≤ bt363.1 then (if bt363.1 ≤ (a1.size : Int) then (if bt363.1 < (a1.size : Int) then ((spec_l1Below.f s0_0 bt366.2.1 bt366.2.2 255).bind fun bt375 => ((some (([(Go.bits .xor .i64 (wrap64 (bt a1 bt363.1)) (wrap64 (1 + bt375.1))) % 256] : List Int) : List Int)).bind fun y378 => (if (a1.extract 0 (bt363.1 : Int).toNat).size + (strOfNums y378).size ≤ 9223372036854775807 then (if 0 ≤ (wrap64 (bt363.1 + 1)) then (if (wrap64 (bt363.1 + 1)) ≤ (a1.size : Int) then (if ((a1.extract 0 (bt363.1 : Int).toNat).size + (strOfNums y378).size) + (a1.extract ((wrap64 (bt363.1 + 1)) : Int).toNat a1.size).size ≤ 9223372036854775807 then (some (((a1.extract 0 (bt363.1 : Int).toNat) ++ (strOfNums y378)) ++ (a1.extract ((wrap64 (bt363.1 + 1)) : Int).toNat a1.size), bt375.2.1, bt375.2.2)) else (none)) else (none)) else (none)) else (none)))) else (none)) else (none)) else (none)))))))) = some (r1, r2, r3) := h
 clear h
 by_cases c3 : (a1.size : Int) = 0
 ·rw [if_pos c3] at H
  have c3b0 : ((a1.size : Int) == 0) = true := beq_iff_eq.mpr c3
  have c3b1 : ((a1.size : Int) != 0) = false := bne_eq_false_iff_eq.mpr c3
  clear c3
  replace H := Option.bind_eq_some_iff.mp H
  obtain ⟨⟨t360, t361, t362⟩, A40, H⟩ := H
  replace H : (some (t360, t361, t362)) = some (r1, r2, r3) := H
  have A4 := Aside0.mk A40
  clear A40
  simp only [Option.some.injEq, Prod.mk.injEq] at H
  obtain ⟨rfl, rfl, rfl⟩ := H
  go_enter Try.func92, Try.ntmps92
  go_wp2_with (first | ((with_reducible refine gC 89 rfl ?_); refine goesZ (some 10) rfl Try.func89 #[.pointer (some ⟨g, 0, none⟩), .int .i64 3] ?_; (with_reducible refine (spec_l1Text.calls k g s0_0 s0_1 s0_2 3 t360 t361 t362 w0 _ ?side1 ?side2 A4.out).mono ?_); (case side1 => repeat (first | (with_reducible first | exact HI0.out | apply IsS136.alloc | apply IsS136.drewN | apply IsS136.drew | apply IsS136.set_1 | apply IsS136.set_2) | exact HI0.out)); (case side2 => repeat (first | (with_reducible first | exact HB.out | apply below_alloc | apply pw_below_drewN | apply below_drew1 | refine below_set ?_ (IsS136.ge HI0.out)) | exact HB.out)); rintro e w5 ⟨rfl, hi, hb, hk⟩; refine ⟨_, rfl, ?_⟩; replace HK := Aside0.mk (KeepBut.trans (by repeat (first | (with_reducible first | exact HK.out | apply KeepBut.set_ | apply keep_drewN | apply keep_drew | apply keep_alloc) | exact HK.out)) hk (.inl rfl)); replace HB := Aside0.mk (hb); replace HI0 := Aside0.mk (hi); (try clear hb hk hi)))
  go_ret
  exact ⟨fe, by repeat (first | (with_reducible first | exact HI0.out | apply IsS136.alloc | apply IsS136.drewN | apply IsS136.drew | apply IsS136.set_1 | apply IsS136.set_2) | exact HI0.out), by repeat (first | (with_reducible first | exact HB.out | apply below_alloc | apply pw_below_drewN | apply below_drew1 | refine below_set ?_ (IsS136.ge HI0.out)) | exact HB.out), by repeat (first | (with_reducible first | exact HK.out | apply KeepBut.set_ | apply keep_drewN | apply keep_drew | apply keep_alloc) | exact HK.out)⟩
 ·rw [if_neg c3] at H
  have c3b0 : ((a1.size : Int) == 0) = false := beq_eq_false_iff_ne.mpr c3
  have c3b1 : ((a1.size : Int) != 0) = true := bne_iff_ne.mpr c3
  replace H := Option.bind_eq_some_iff.mp H
  obtain ⟨⟨t363, t364, t365⟩, A60, H⟩ := H
  replace H : ((spec_l1Below.f s0_0 t364 t365 4).bind fun bt366 => (if bt366.1 = 0 then (if 0 ≤ t363 then (if t363 ≤ (a1.size : Int) then (if 0 ≤ (wrap64 (t363 + 1)) then (if (wrap64 (t363 + 1)) ≤ (a1.size : Int) then (if (a1.extract 0 (t363 : Int).toNat).size + (a1.extract ((wrap64 (t363 + 1)) : Int).toNat a1.size).size ≤ 9223372036854775807 then (some ((a1.extract 0 (t363 : Int).toNat) ++ (a1.extract ((wrap64 (t363 + 1)) : Int).toNat a1.size), bt366.2.1, bt366.2.2)) else (none)) else (none)) else (none)) else (none)) else (none)) else (if bt366.1 = 1 then (if 0 ≤ t363 then (if t363 ≤ (a1.size : Int) then ((spec_l1Byte.f s0_0 bt366.2.1 bt366.2.2).bind fun bt369 => ((some (([(bt369.1) % 256] : List Int) : List Int)).bind fun y372 => (if (a1.extract 0 (t363 : Int).toNat).size + (strOfNums y372).size ≤ 9223372036854775807 then (if ((a1.extract 0 (t363 : Int).toNat).size + (strOfNums y372).size) + (a1.extract (t363 : Int).toNat a1.size).size ≤ 9223372036854775807 then (some (((a1.extract 0 (t363 : Int).toNat) ++ (strOfNums y372)) ++ (a1.extract (t363 : Int).toNat a1.size), bt369.2.1, bt369.2.2)) else (none)) else (none)))) else (none)) else (none)) else (if bt366.1 = 2 then (if 0 ≤ t363 then (if t363 ≤ (a1.size : Int) then (some (a1.extract 0 (t363 : Int).toNat, bt366.2.1, bt366.2.2)) else (none)) else (none)) else (if 0 ≤ t363 then (if t363 ≤ (a1.size : Int) then (if t363 < (a1.size : Int) then ((spec_l1Below.f s0_0 bt366.2.1 bt366.2.2 255).bind fun bt375 => ((some (([(Go.bits .xor .i64 (wrap64 (bt a1 t363)) (wrap64 (1 + bt375.1))) % 256] : List Int) : List Int)).bind fun y378 => (if (a1.extract 0 (t363 : Int).toNat).size + (strOfNums y378).size ≤ 9223372036854775807 then (if 0 ≤ (wrap64 (t363 + 1)) then (if (wrap64 (t363 + 1)) ≤ (a1.size : Int) then (if ((a1.extract 0 (t363 : Int).toNat).size + (strOfNums y378).size) + (a1.extract ((wrap64 (t363 + 1)) : Int).toNat a1.size).size ≤ 9223372036854775807 then (some (((a1.extract 0 (t363 : Int).toNat) ++ (strOfNums y378)) ++ (a1.extract ((wrap64 (t363 + 1)) : Int).toNat a1.size), bt375.2.1, bt375.2.2)) else (none)) else (none)) else (none)) else (none)))) else (none)) else (none)) else (none)))))) = some (r1, r2, r3) := H
  have A6 := Aside0.mk A60
  clear A60
  replace H := Option.bind_eq_some_iff.mp H
  obtain ⟨⟨t366, t367, t368⟩, A70, H⟩ := H
  replace H : (if t366 = 0 then (if 0 ≤ t363 then (if t363 ≤ (a1.size : Int) then (if 0 ≤ (wrap64 (t363 + 1)) then (if (wrap64 (t363 + 1)) ≤ (a1.size : Int) then (if (a1.extract 0 (t363 : Int).toNat).size + (a1.extract ((wrap64 (t363 + 1)) : Int).toNat a1.size).size ≤ 9223372036854775807 then (some ((a1.extract 0 (t363 : Int).toNat) ++ (a1.extract ((wrap64 (t363 + 1)) : Int).toNat a1.size), t367, t368)) else (none)) else (none)) else (none)) else (none)) else (none)) else (if t366 = 1 then (if 0 ≤ t363 then (if t363 ≤ (a1.size : Int) then ((spec_l1Byte.f s0_0 t367 t368).bind fun bt369 => ((some (([(bt369.1) % 256] : List Int) : List Int)).bind fun y372 => (if (a1.extract 0 (t363 : Int).toNat).size + (strOfNums y372).size ≤ 9223372036854775807 then (if ((a1.extract 0 (t363 : Int).toNat).size + (strOfNums y372).size) + (a1.extract (t363 : Int).toNat a1.size).size ≤ 9223372036854775807 then (some (((a1.extract 0 (t363 : Int).toNat) ++ (strOfNums y372)) ++ (a1.extract (t363 : Int).toNat a1.size), bt369.2.1, bt369.2.2)) else (none)) else (none)))) else (none)) else (none)) else (if t366 = 2 then (if 0 ≤ t363 then (if t363 ≤ (a1.size : Int) then (some (a1.extract 0 (t363 : Int).toNat, t367, t368)) else (none)) else (none)) else (if 0 ≤ t363 then (if t363 ≤ (a1.size : Int) then (if t363 < (a1.size : Int) then ((spec_l1Below.f s0_0 t367 t368 255).bind fun bt375 => ((some (([(Go.bits .xor .i64 (wrap64 (bt a1 t363)) (wrap64 (1 + bt375.1))) % 256] : List Int) : List Int)).bind fun y378 => (if (a1.extract 0 (t363 : Int).toNat).size + (strOfNums y378).size ≤ 9223372036854775807 then (if 0 ≤ (wrap64 (t363 + 1)) then (if (wrap64 (t363 + 1)) ≤ (a1.size : Int) then (if ((a1.extract 0 (t363 : Int).toNat).size + (strOfNums y378).size) + (a1.extract ((wrap64 (t363 + 1)) : Int).toNat a1.size).size ≤ 9223372036854775807 then (some (((a1.extract 0 (t363 : Int).toNat) ++ (strOfNums y378)) ++ (a1.extract ((wrap64 (t363 + 1)) : Int).toNat a1.size), bt375.2.1, bt375.2.2)) else (none)) else (none)) else (none)) else (none)))) else (none)) else (none)) else (none))))) = some (r1, r2, r3) := H
  have A7 := Aside0.mk A70
  clear A70
  by_cases c8 : t366 = 0
  ·rw [if_pos c8] at H
   have c8b0 : (t366 == 0) = true := beq_iff_eq.mpr c8
   have c8b1 : (t366 != 0) = false := bne_eq_false_iff_eq.mpr c8
   clear c8
   by_cases c9 : 0 ≤ t363
   ·rw [if_pos c9] at H
    have c9b0 := eq_true c9
    have c9b1 : decide (0 ≤ t363) = true := decide_eq_true c9
    clear c9
    by_cases c10 : t363 ≤ (a1.size : Int)
    ·rw [if_pos c10] at H
     have c10b0 := eq_true c10
     have c10b1 : decide (t363 ≤ (a1.size : Int)) = true := decide_eq_true c10
     clear c10
     obtain ⟨ji11, hji11⟩ : ∃ j_ : Int, (wrap64 (t363 + 1)) = j_ := ⟨_, rfl⟩
     replace H : (if 0 ≤ (ji11) then (if (ji11) ≤ (a1.size : Int) then (if (a1.extract 0 (t363 : Int).toNat).size + (a1.extract ((ji11) : Int).toNat a1.size).size ≤ 9223372036854775807 then (some ((a1.extract 0 (t363 : Int).toNat) ++ (a1.extract ((ji11) : Int).toNat a1.size), t367, t368)) else (none)) else (none)) else (none)) = some (r1, r2, r3) := by first | (rw [hji11] at H; exact H) | (simp only [hji11] at H ⊢; exact H)
     (try rw [hji11] at A6)
     (try rw [hji11] at A7)
     have hji11w : (IntKind.i64.wrap (t363 + 1)) = ji11 := (i64_w _).trans hji11
     by_cases c12 : 0 ≤ (ji11)
     ·rw [if_pos c12] at H
      have c12b0 := eq_true c12
      have c12b1 : decide (0 ≤ (ji11)) = true := decide_eq_true c12
      clear c12
      by_cases c13 : (ji11) ≤ (a1.size : Int)
      ·rw [if_pos c13] at H
       have c13b0 := eq_true c13
       have c13b1 : decide ((ji11) ≤ (a1.size : Int)) = true := decide_eq_true c13
       clear c13
       by_cases c14 : (a1.extract 0 (t363 : Int).toNat).size + (a1.extract ((ji11) : Int).toNat a1.size).size ≤ 9223372036854775807
       ·rw [if_pos c14] at H
        have c14b0 := eq_true c14
        have c14b1 : decide ((a1.extract 0 (t363 : Int).toNat).size + (a1.extract ((ji11) : Int).toNat a1.size).size ≤ 9223372036854775807) = true := decide_eq_true c14
        try have c14b2 : (9223372036854775807 < (a1.extract 0 (t363 : Int).toNat).size + (a1.extract ((ji11) : Int).toNat a1.size).size) = False := eq_false (Nat.not_lt.2 c14)
        try (have c14b4 : (9223372036854775807 < t363.toNat + (a1.size - ((ji11) : Int).toNat)) = False := by (have h_ := c14; refine eq_false (fun h__ => ?_); simp only [eq_iff_iff, iff_true, decide_eq_true_eq, ByteArray.size_extract] at *; omega))
        simp only [Option.some.injEq, Prod.mk.injEq] at H
        obtain ⟨rfl, rfl, rfl⟩ := H
        go_enter Try.func92, Try.ntmps92
        try go_wp2_with (first | ((with_reducible refine gC 102 rfl ?_); refine goesZ (some 14) rfl Try.func102 #[.pointer (some ⟨g, 0, none⟩), .int .i64 (a1.size : Int)] ?_; (with_reducible refine (spec_l1Below.calls g s0_0 s0_1 s0_2 (a1.size : Int) t363 t364 t365 w0 _ ?side1 ?side2 A6.out).mono ?_); (case side1 => repeat (first | (with_reducible first | exact HI0.out | apply IsS136.alloc | apply IsS136.drewN | apply IsS136.drew | apply IsS136.set_1 | apply IsS136.set_2) | exact HI0.out)); (case side2 => repeat (first | (with_reducible first | exact HB.out | apply below_alloc | apply pw_below_drewN | apply below_drew1 | refine below_set ?_ (IsS136.ge HI0.out)) | exact HB.out)); rintro e w15 ⟨rfl, hi, hb, hk⟩; refine ⟨_, rfl, ?_⟩; replace HK := Aside0.mk (KeepBut.trans (by repeat (first | (with_reducible first | exact HK.out | apply KeepBut.set_ | apply keep_drewN | apply keep_drew | apply keep_alloc) | exact HK.out)) hk (.inl rfl)); replace HB := Aside0.mk (hb); replace HI0 := Aside0.mk (hi); (try clear hb hk hi)) | ((with_reducible refine gC 102 rfl ?_); refine goesZ (some 16) rfl Try.func102 #[.pointer (some ⟨g, 0, none⟩), .int .i64 4] ?_; (with_reducible refine (spec_l1Below.calls g s0_0 t364 t365 4 t366 t367 t368 w0 _ ?side1 ?side2 A7.out).mono ?_); (case side1 => repeat (first | (with_reducible first | exact HI0.out | apply IsS136.alloc | apply IsS136.drewN | apply IsS136.drew | apply IsS136.set_1 | apply IsS136.set_2) | exact HI0.out)); (case side2 => repeat (first | (with_reducible first | exact HB.out | apply below_alloc | apply pw_below_drewN | apply below_drew1 | refine below_set ?_ (IsS136.ge HI0.out)) | exact HB.out)); rintro e w16 ⟨rfl, hi, hb, hk⟩; refine ⟨_, rfl, ?_⟩; replace HK := Aside0.mk (KeepBut.trans (by repeat (first | (with_reducible first | exact HK.out | apply KeepBut.set_ | apply keep_drewN | apply keep_drew | apply keep_alloc) | exact HK.out)) hk (.inl rfl)); replace HB := Aside0.mk (hb); replace HI0 := Aside0.mk (hi); (try clear hb hk hi)))
        replace HI0 := Aside0.mk (IsS136.drew HI0.out); replace HK := Aside0.mk (keep_drew HK.out); replace HB := Aside0.mk (below_drew1 HB.out)
        refine start_ (n := 9) (S := fun w' => True) (ds := []) (bo 9 0) (by kernel_rfl) rfl rfl trivial (fun hHeld => ?_); refine with_tabW spec_l1Spoil.tab6 spec_l1Spoil.bits6 (fun HT_ HW_ => ?_)
        generalize w16.drew = w17 at HI0 HK HB hHeld ⊢
        refine pV 0 19 (bo 9 1) ?_
        refine pV 1 20 (bo 9 3) ?_
        refine pV 2 21 (bo 9 7) ?_
        refine pV 3 22 (bo 9 15) ?_
        refine pV 4 23 (bo 9 31) ?_
        refine pV 5 24 (bo 9 63) ?_
        refine pV 6 25 (bo 9 127) ?_
        refine pV 7 26 (bo 9 255) ?_
        refine pV 8 4 (bo 9 511) ?_
        refine done_ (done_of HT_.out (by kernel_rfl)) ?_
        try go_wp2
        go_ret
        exact ⟨by first | rfl | (simp [errW_none, errW_some] <;> rfl) | (simp only [← hji11]; first | rfl | (simp [errW_none, errW_some] <;> rfl)) | (simp [*, errW_none, errW_some] <;> rfl), by repeat (first | (with_reducible first | exact HI0.out | apply IsS136.alloc | apply IsS136.drewN | apply IsS136.drew | apply IsS136.set_1 | apply IsS136.set_2) | exact HI0.out), by repeat (first | (with_reducible first | exact HB.out | apply below_alloc | apply pw_below_drewN | apply below_drew1 | refine below_set ?_ (IsS136.ge HI0.out)) | exact HB.out), by repeat (first | (with_reducible first | exact HK.out | apply KeepBut.set_ | apply keep_drewN | apply keep_drew | apply keep_alloc) | exact HK.out)⟩
       ·rw [if_neg c14] at H
        exact absurd H (by simp)
      ·rw [if_neg c13] at H
       exact absurd H (by simp)
     ·rw [if_neg c12] at H
      exact absurd H (by simp)
    ·rw [if_neg c10] at H
     exact absurd H (by simp)
   ·rw [if_neg c9] at H
    exact absurd H (by simp)
  ·rw [if_neg c8] at H
   have c8b0 : (t366 == 0) = false := beq_eq_false_iff_ne.mpr c8
   have c8b1 : (t366 != 0) = true := bne_iff_ne.mpr c8
   by_cases c18 : t366 = 1
   ·rw [if_pos c18] at H
    have c18b0 : (t366 == 1) = true := beq_iff_eq.mpr c18
    have c18b1 : (t366 != 1) = false := bne_eq_false_iff_eq.mpr c18
    clear c18
    by_cases c19 : 0 ≤ t363
    ·rw [if_pos c19] at H
     have c19b0 := eq_true c19
     have c19b1 : decide (0 ≤ t363) = true := decide_eq_true c19
     clear c19
     by_cases c20 : t363 ≤ (a1.size : Int)
     ·rw [if_pos c20] at H
      have c20b0 := eq_true c20
      have c20b1 : decide (t363 ≤ (a1.size : Int)) = true := decide_eq_true c20
      clear c20
      replace H := Option.bind_eq_some_iff.mp H
      obtain ⟨⟨t369, t370, t371⟩, A210, H⟩ := H
      replace H : ((some (([(t369) % 256] : List Int) : List Int)).bind fun y372 => (if (a1.extract 0 (t363 : Int).toNat).size + (strOfNums y372).size ≤ 9223372036854775807 then (if ((a1.extract 0 (t363 : Int).toNat).size + (strOfNums y372).size) + (a1.extract (t363 : Int).toNat a1.size).size ≤ 9223372036854775807 then (some (((a1.extract 0 (t363 : Int).toNat) ++ (strOfNums y372)) ++ (a1.extract (t363 : Int).toNat a1.size), t370, t371)) else (none)) else (none))) = some (r1, r2, r3) := H
      have A21 := Aside0.mk A210
      clear A210
      obtain ⟨y372, hy372⟩ : ∃ y_ : List Int, y_ = (([(t369) % 256] : List Int)) := ⟨_, rfl⟩
      replace H : (if (a1.extract 0 (t363 : Int).toNat).size + (strOfNums y372).size ≤ 9223372036854775807 then (if ((a1.extract 0 (t363 : Int).toNat).size + (strOfNums y372).size) + (a1.extract (t363 : Int).toNat a1.size).size ≤ 9223372036854775807 then (some (((a1.extract 0 (t363 : Int).toNat) ++ (strOfNums y372)) ++ (a1.extract (t363 : Int).toNat a1.size), t370, t371)) else (none)) else (none)) = some (r1, r2, r3) := by first | (rw [hy372]; with_reducible exact H) | (have H2_ := (Option.bind_some _ _).symm.trans H; rw [hy372]; with_reducible exact H2_) | (have H2_ := (Option.bind_some _ _).symm.trans H; with_reducible exact H2_) | with_reducible exact H | (rw [hy372]; exact H) | exact H
      have Ny372 := Aside0.mk hy372
      clear hy372
      by_cases c22 : (a1.extract 0 (t363 : Int).toNat).size + (strOfNums y372).size ≤ 9223372036854775807
      ·rw [if_pos c22] at H
       have c22b0 := eq_true c22
       have c22b1 : decide ((a1.extract 0 (t363 : Int).toNat).size + (strOfNums y372).size ≤ 9223372036854775807) = true := decide_eq_true c22
       try have c22b2 : (9223372036854775807 < (a1.extract 0 (t363 : Int).toNat).size + (strOfNums y372).size) = False := eq_false (Nat.not_lt.2 c22)
       try (have c22b4 : (9223372036854775807 < t363.toNat + (strOfNums y372).size) = False := by (have h_ := c22; refine eq_false (fun h__ => ?_); simp only [eq_iff_iff, iff_true, decide_eq_true_eq, ByteArray.size_extract] at *; omega))
       have c23b0 := eq_true (of_decide_eq_true am : 0 ≤ t363)
       have c24b0 := eq_true (of_decide_eq_true am : t363 ≤ (a1.size : Int))
       by_cases c25 : ((a1.extract 0 (t363 : Int).toNat).size + (strOfNums y372).size) + (a1.extract (t363 : Int).toNat a1.size).size ≤ 9223372036854775807
       ·rw [if_pos c25] at H
        have c25b0 := eq_true c25
        have c25b1 : decide (((a1.extract 0 (t363 : Int).toNat).size + (strOfNums y372).size) + (a1.extract (t363 : Int).toNat a1.size).size ≤ 9223372036854775807) = true := decide_eq_true c25
        try have c25b2 : (9223372036854775807 < ((a1.extract 0 (t363 : Int).toNat).size + (strOfNums y372).size) + (a1.extract (t363 : Int).toNat a1.size).size) = False := eq_false (Nat.not_lt.2 c25)
        try (have c25b4 : (9223372036854775807 < (t363.toNat + (strOfNums y372).size) + (a1.size - t363.toNat)) = False := by (have h_ := c25; refine eq_false (fun h__ => ?_); simp only [eq_iff_iff, iff_true, decide_eq_true_eq, ByteArray.size_extract] at *; omega))
        simp only [Option.some.injEq, Prod.mk.injEq] at H
        obtain ⟨rfl, rfl, rfl⟩ := H
        go_enter Try.func92, Try.ntmps92
        try go_wp2_with (first | ((with_reducible refine gC 102 rfl ?_); refine goesZ (some 14) rfl Try.func102 #[.pointer (some ⟨g, 0, none⟩), .int .i64 (a1.size : Int)] ?_; (with_reducible refine (spec_l1Below.calls g s0_0 s0_1 s0_2 (a1.size : Int) t363 t364 t365 w0 _ ?side1 ?side2 A6.out).mono ?_); (case side1 => repeat (first | (with_reducible first | exact HI0.out | apply IsS136.alloc | apply IsS136.drewN | apply IsS136.drew | apply IsS136.set_1 | apply IsS136.set_2) | exact HI0.out)); (case side2 => repeat (first | (with_reducible first | exact HB.out | apply below_alloc | apply pw_below_drewN | apply below_drew1 | refine below_set ?_ (IsS136.ge HI0.out)) | exact HB.out)); rintro e w26 ⟨rfl, hi, hb, hk⟩; refine ⟨_, rfl, ?_⟩; replace HK := Aside0.mk (KeepBut.trans (by repeat (first | (with_reducible first | exact HK.out | apply KeepBut.set_ | apply keep_drewN | apply keep_drew | apply keep_alloc) | exact HK.out)) hk (.inl rfl)); replace HB := Aside0.mk (hb); replace HI0 := Aside0.mk (hi); (try clear hb hk hi)) | ((with_reducible refine gC 102 rfl ?_); refine goesZ (some 16) rfl Try.func102 #[.pointer (some ⟨g, 0, none⟩), .int .i64 4] ?_; (with_reducible refine (spec_l1Below.calls g s0_0 t364 t365 4 t366 t367 t368 w0 _ ?side1 ?side2 A7.out).mono ?_); (case side1 => repeat (first | (with_reducible first | exact HI0.out | apply IsS136.alloc | apply IsS136.drewN | apply IsS136.drew | apply IsS136.set_1 | apply IsS136.set_2) | exact HI0.out)); (case side2 => repeat (first | (with_reducible first | exact HB.out | apply below_alloc | apply pw_below_drewN | apply below_drew1 | refine below_set ?_ (IsS136.ge HI0.out)) | exact HB.out)); rintro e w27 ⟨rfl, hi, hb, hk⟩; refine ⟨_, rfl, ?_⟩; replace HK := Aside0.mk (KeepBut.trans (by repeat (first | (with_reducible first | exact HK.out | apply KeepBut.set_ | apply keep_drewN | apply keep_drew | apply keep_alloc) | exact HK.out)) hk (.inl rfl)); replace HB := Aside0.mk (hb); replace HI0 := Aside0.mk (hi); (try clear hb hk hi)))
        replace HI0 := Aside0.mk (IsS136.drew HI0.out); replace HK := Aside0.mk (keep_drew HK.out); replace HB := Aside0.mk (below_drew1 HB.out)
        refine start_ (n := 14) (S := fun w' => True) (ds := []) (bo 14 0) (by kernel_rfl) rfl rfl trivial (fun hHeld => ?_); refine with_tabW spec_l1Spoil.tab8 spec_l1Spoil.bits8 (fun HT_ HW_ => ?_)
        generalize w27.drew = w28 at HI0 HK HB hHeld ⊢
        refine pV 0 29 (bo 14 1) ?_
        refine pV 1 30 (bo 14 3) ?_
        refine pV 2 31 (bo 14 7) ?_
        refine pV 3 32 (bo 14 15) ?_
        refine pV 9 38 (bo 14 527) ?_
        refine pV 10 39 (bo 14 1551) ?_
        refine pV 11 40 (bo 14 3599) ?_
        refine one_ (i := 4) (N := some 33) (bo 14 3615) rfl rfl (one_of HT_.out (by kernel_rfl)) (by decide) (fun K hK => ?_)
        refine goes_ Try.func127 (by kernel_rfl) rfl #[.pointer (some ⟨g, 0, none⟩)] (by rfl) rfl rfl sa ?_
        with_reducible refine (spec_l1Byte.calls g s0_0 t367 t368 t369 t370 t371 w0 _ ?side1 ?side2 A21.out).mono ?_
        (case side1 => repeat (first | (with_reducible first | exact HI0.out | apply IsS136.alloc | apply IsS136.drewN | apply IsS136.drew | apply IsS136.set_1 | apply IsS136.set_2) | exact HI0.out))
        (case side2 => repeat (first | (with_reducible first | exact HB.out | apply below_alloc | apply pw_below_drewN | apply below_drew1 | refine below_set ?_ (IsS136.ge HI0.out)) | exact HB.out))
        rintro e w29 ⟨rfl, hi, hb, hk⟩
        refine ⟨_, rfl, ?_⟩
        replace HK := Aside0.mk (KeepBut.trans (by repeat (first | (with_reducible first | exact HK.out | apply KeepBut.set_ | apply keep_drewN | apply keep_drew | apply keep_alloc) | exact HK.out)) hk (.inl rfl)); replace HB := Aside0.mk (hb); replace HI0 := Aside0.mk (hi); (try clear hb hb2 hk hi)
        refine hK.out _ _ trivial (fun hHeld => ?_)
        clear hK K
        refine norm_ (a' := ?_) ?_ ?_
        rotate_left
        ·show Act.put _ (some 33) _ = _
         simp only [Act.put, List.setIfInBounds_toArray, List.set_cons_zero, List.set_cons_succ, i64_w, i32_w]
         rfl
        refine pV 5 34 (bo 14 3647) ?_
        refine one_ (i := 6) (N := some 35) (bo 14 3711) rfl rfl (one_of HT_.out (by kernel_rfl)) (by decide) (fun K hK => ?_)
        refine Kd.R_lit_step (Kd.int .u8) _ 5 ?hg (N := 35) ?hd (xs := ([(t369) % 256] : List Int)) (inner := [.int .u8 ((t369) % 256)]) (ok := fun _ => True) (okp := fun _ => True) ?hr ?hp (fun _ hk => hk) trivial (Below.refl _ _) (Nat.le_refl _) (by simp) ?_; (case hd => rfl); (case hg => rfl); (case hr => first | (go_simp; done) | (go_simp; rfl)); (case hp => exact (Reps.one (show Kd.M (Kd.int .u8) _ _ _ ((t369) % 256) [.int .u8 ((t369) % 256)] from rfl) (Reps.none _ _)))
        intro v373 w30 ho31 hb hg_ hnew_
        clear hg_ hnew_
        (first | rw [← Ny372.out] at ho31 | (simp only [Int.reduceToNat] at ho31; rw [← Ny372.out] at ho31))
        have HO374 := Aside0.mk (Kd.R_lower ho31 (keep_size (w := w) (g := g) (row := none) (by repeat (first | (with_reducible first | exact HK.out | apply KeepBut.set_ | apply keep_drewN | apply keep_drew | apply keep_alloc) | exact HK.out)))); replace HK := Aside0.mk (KeepBut.trans (by repeat (first | (with_reducible first | exact HK.out | apply KeepBut.set_ | apply keep_drewN | apply keep_drew | apply keep_alloc) | exact HK.out)) (KeepBut.of_below hb g none) (.inl rfl)); replace HB := Aside0.mk (below_step (by repeat (first | (with_reducible first | exact HB.out | apply below_alloc | apply pw_below_drewN | apply below_drew1 | refine below_set ?_ (IsS136.ge HI0.out)) | exact HB.out)) hb); replace HI0 := Aside0.mk (IsS136.below (by repeat (first | (with_reducible first | exact HI0.out | apply IsS136.alloc | apply IsS136.drewN | apply IsS136.drew | apply IsS136.set_1 | apply IsS136.set_2) | exact HI0.out)) hb); clear hb ho31
        refine hK.out _ _ trivial (fun hHeld => ?_)
        clear hK K
        refine norm_ (a' := ?_) ?_ ?_
        rotate_left
        ·show Act.put _ (some 35) _ = _
         simp only [Act.put, List.setIfInBounds_toArray, List.set_cons_zero, List.set_cons_succ, i64_w, i32_w]
         rfl
        refine one_ (i := 7) (N := some 36) (bo 14 3839) rfl rfl (one_of HT_.out (by kernel_rfl)) (by decide) (fun K hK => ?_)
        have hcv32 := own_string (P := Try.prog) Try.underlying37 Try.underlying5 Try.underlying9 (Kd.own_of_R HO374.out)
        refine value_ (w1 := ?_) (v := ?_) (by rfl) rfl ?_ ?_
        rotate_left 2
        ·go_simp
         constructor
         ·rfl
         ·rfl
        clear hcv32
        refine hK.out _ _ trivial (fun hHeld => ?_)
        clear hK K
        refine norm_ (a' := ?_) ?_ ?_
        rotate_left
        ·show Act.put _ (some 36) _ = _
         simp only [Act.put, List.setIfInBounds_toArray, List.set_cons_zero, List.set_cons_succ, i64_w, i32_w]
         rfl
        refine pV 8 37 (bo 14 4095) ?_
        refine pV 12 41 (bo 14 8191) ?_
        refine pV 13 4 (bo 14 16383) ?_
        refine done_ (done_of HT_.out (by kernel_rfl)) ?_
        try go_wp2
        go_ret
        exact ⟨fe, by repeat (first | (with_reducible first | exact HI0.out | apply IsS136.alloc | apply IsS136.drewN | apply IsS136.drew | apply IsS136.set_1 | apply IsS136.set_2) | exact HI0.out), by repeat (first | (with_reducible first | exact HB.out | apply below_alloc | apply pw_below_drewN | apply below_drew1 | refine below_set ?_ (IsS136.ge HI0.out)) | exact HB.out), by repeat (first | (with_reducible first | exact HK.out | apply KeepBut.set_ | apply keep_drewN | apply keep_drew | apply keep_alloc) | exact HK.out)⟩
       ·rw [if_neg c25] at H
        exact absurd H (by simp)
      ·rw [if_neg c22] at H
       exact absurd H (by simp)
     ·rw [if_neg c20] at H
      exact absurd H (by simp)
    ·rw [if_neg c19] at H
     exact absurd H (by simp)
   ·rw [if_neg c18] at H
    have c18b0 : (t366 == 1) = false := beq_eq_false_iff_ne.mpr c18
    have c18b1 : (t366 != 1) = true := bne_iff_ne.mpr c18
    by_cases c33 : t366 = 2
    ·rw [if_pos c33] at H
     have c33b0 : (t366 == 2) = true := beq_iff_eq.mpr c33
     have c33b1 : (t366 != 2) = false := bne_eq_false_iff_eq.mpr c33
     clear c33
     by_cases c34 : 0 ≤ t363
     ·rw [if_pos c34] at H
      have c34b0 := eq_true c34
      have c34b1 : decide (0 ≤ t363) = true := decide_eq_true c34
      clear c34
      by_cases c35 : t363 ≤ (a1.size : Int)
      ·rw [if_pos c35] at H
       have c35b0 := eq_true c35
       have c35b1 : decide (t363 ≤ (a1.size : Int)) = true := decide_eq_true c35
       clear c35
       simp only [Option.some.injEq, Prod.mk.injEq] at H
       obtain ⟨rfl, rfl, rfl⟩ := H
       go_enter Try.func92, Try.ntmps92
       go_wp2_with (first | ((with_reducible refine gC 102 rfl ?_); refine goesZ (some 14) rfl Try.func102 #[.pointer (some ⟨g, 0, none⟩), .int .i64 (a1.size : Int)] ?_; (with_reducible refine (spec_l1Below.calls g s0_0 s0_1 s0_2 (a1.size : Int) t363 t364 t365 w0 _ ?side1 ?side2 A6.out).mono ?_); (case side1 => repeat (first | (with_reducible first | exact HI0.out | apply IsS136.alloc | apply IsS136.drewN | apply IsS136.drew | apply IsS136.set_1 | apply IsS136.set_2) | exact HI0.out)); (case side2 => repeat (first | (with_reducible first | exact HB.out | apply below_alloc | apply pw_below_drewN | apply below_drew1 | refine below_set ?_ (IsS136.ge HI0.out)) | exact HB.out)); rintro e w36 ⟨rfl, hi, hb, hk⟩; refine ⟨_, rfl, ?_⟩; replace HK := Aside0.mk (KeepBut.trans (by repeat (first | (with_reducible first | exact HK.out | apply KeepBut.set_ | apply keep_drewN | apply keep_drew | apply keep_alloc) | exact HK.out)) hk (.inl rfl)); replace HB := Aside0.mk (hb); replace HI0 := Aside0.mk (hi); (try clear hb hk hi)) | ((with_reducible refine gC 102 rfl ?_); refine goesZ (some 16) rfl Try.func102 #[.pointer (some ⟨g, 0, none⟩), .int .i64 4] ?_; (with_reducible refine (spec_l1Below.calls g s0_0 t364 t365 4 t366 t367 t368 w0 _ ?side1 ?side2 A7.out).mono ?_); (case side1 => repeat (first | (with_reducible first | exact HI0.out | apply IsS136.alloc | apply IsS136.drewN | apply IsS136.drew | apply IsS136.set_1 | apply IsS136.set_2) | exact HI0.out)); (case side2 => repeat (first | (with_reducible first | exact HB.out | apply below_alloc | apply pw_below_drewN | apply below_drew1 | refine below_set ?_ (IsS136.ge HI0.out)) | exact HB.out)); rintro e w37 ⟨rfl, hi, hb, hk⟩; refine ⟨_, rfl, ?_⟩; replace HK := Aside0.mk (KeepBut.trans (by repeat (first | (with_reducible first | exact HK.out | apply KeepBut.set_ | apply keep_drewN | apply keep_drew | apply keep_alloc) | exact HK.out)) hk (.inl rfl)); replace HB := Aside0.mk (hb); replace HI0 := Aside0.mk (hi); (try clear hb hk hi)))
       go_ret
       exact ⟨fe, by repeat (first | (with_reducible first | exact HI0.out | apply IsS136.alloc | apply IsS136.drewN | apply IsS136.drew | apply IsS136.set_1 | apply IsS136.set_2) | exact HI0.out), by repeat (first | (with_reducible first | exact HB.out | apply below_alloc | apply pw_below_drewN | apply below_drew1 | refine below_set ?_ (IsS136.ge HI0.out)) | exact HB.out), by repeat (first | (with_reducible first | exact HK.out | apply KeepBut.set_ | apply keep_drewN | apply keep_drew | apply keep_alloc) | exact HK.out)⟩
      ·rw [if_neg c35] at H
       exact absurd H (by simp)
     ·rw [if_neg c34] at H
      exact absurd H (by simp)
    ·rw [if_neg c33] at H
     have c33b0 : (t366 == 2) = false := beq_eq_false_iff_ne.mpr c33
     have c33b1 : (t366 != 2) = true := bne_iff_ne.mpr c33
     by_cases c38 : 0 ≤ t363
     ·rw [if_pos c38] at H
      have c38b0 := eq_true c38
      have c38b1 : decide (0 ≤ t363) = true := decide_eq_true c38
      clear c38
      by_cases c39 : t363 ≤ (a1.size : Int)
      ·rw [if_pos c39] at H
       have c39b0 := eq_true c39
       have c39b1 : decide (t363 ≤ (a1.size : Int)) = true := decide_eq_true c39
       clear c39
       by_cases c40 : t363 < (a1.size : Int)
       ·rw [if_pos c40] at H
        have c40b0 : decide (t363 < (a1.size : Int)) = true := decide_eq_true c40
        clear c40
        replace H := Option.bind_eq_some_iff.mp H
        obtain ⟨⟨t375, t376, t377⟩, A420, H⟩ := H
        replace H : ((some (([(Go.bits .xor .i64 (wrap64 (bt a1 t363)) (wrap64 (1 + t375))) % 256] : List Int) : List Int)).bind fun y378 => (if (a1.extract 0 (t363 : Int).toNat).size + (strOfNums y378).size ≤ 9223372036854775807 then (if 0 ≤ (wrap64 (t363 + 1)) then (if (wrap64 (t363 + 1)) ≤ (a1.size : Int) then (if ((a1.extract 0 (t363 : Int).toNat).size + (strOfNums y378).size) + (a1.extract ((wrap64 (t363 + 1)) : Int).toNat a1.size).size ≤ 9223372036854775807 then (some (((a1.extract 0 (t363 : Int).toNat) ++ (strOfNums y378)) ++ (a1.extract ((wrap64 (t363 + 1)) : Int).toNat a1.size), t376, t377)) else (none)) else (none)) else (none)) else (none))) = some (r1, r2, r3) := H
        have A42 := Aside0.mk A420
        clear A420
        obtain ⟨y378, hy378⟩ : ∃ y_ : List Int, y_ = (([(Go.bits .xor .i64 (wrap64 (bt a1 t363)) (wrap64 (1 + t375))) % 256] : List Int)) := ⟨_, rfl⟩
        replace H : (if (a1.extract 0 (t363 : Int).toNat).size + (strOfNums y378).size ≤ 9223372036854775807 then (if 0 ≤ (wrap64 (t363 + 1)) then (if (wrap64 (t363 + 1)) ≤ (a1.size : Int) then (if ((a1.extract 0 (t363 : Int).toNat).size + (strOfNums y378).size) + (a1.extract ((wrap64 (t363 + 1)) : Int).toNat a1.size).size ≤ 9223372036854775807 then (some (((a1.extract 0 (t363 : Int).toNat) ++ (strOfNums y378)) ++ (a1.extract ((wrap64 (t363 + 1)) : Int).toNat a1.size), t376, t377)) else (none)) else (none)) else (none)) else (none)) = some (r1, r2, r3) := by first | (rw [hy378]; with_reducible exact H) | (have H2_ := (Option.bind_some _ _).symm.trans H; rw [hy378]; with_reducible exact H2_) | (have H2_ := (Option.bind_some _ _).symm.trans H; with_reducible exact H2_) | with_reducible exact H | (rw [hy378]; exact H) | exact H
        have Ny378 := Aside0.mk hy378
        clear hy378
        by_cases c43 : (a1.extract 0 (t363 : Int).toNat).size + (strOfNums y378).size ≤ 9223372036854775807
        ·rw [if_pos c43] at H
         have c43b0 := eq_true c43
         have c43b1 : decide ((a1.extract 0 (t363 : Int).toNat).size + (strOfNums y378).size ≤ 9223372036854775807) = true := decide_eq_true c43
         try have c43b2 : (9223372036854775807 < (a1.extract 0 (t363 : Int).toNat).size + (strOfNums y378).size) = False := eq_false (Nat.not_lt.2 c43)
         try (have c43b4 : (9223372036854775807 < t363.toNat + (strOfNums y378).size) = False := by (have h_ := c43; refine eq_false (fun h__ => ?_); simp only [eq_iff_iff, iff_true, decide_eq_true_eq, ByteArray.size_extract] at *; omega))
         obtain ⟨ji44, hji44⟩ : ∃ j_ : Int, (wrap64 (t363 + 1)) = j_ := ⟨_, rfl⟩
         replace H : (if 0 ≤ (ji44) then (if (ji44) ≤ (a1.size : Int) then (if ((a1.extract 0 (t363 : Int).toNat).size + (strOfNums y378).size) + (a1.extract ((ji44) : Int).toNat a1.size).size ≤ 9223372036854775807 then (some (((a1.extract 0 (t363 : Int).toNat) ++ (strOfNums y378)) ++ (a1.extract ((ji44) : Int).toNat a1.size), t376, t377)) else (none)) else (none)) else (none)) = some (r1, r2, r3) := by first | (rw [hji44] at H; exact H) | (simp only [hji44] at H ⊢; exact H)
         (try rw [hji44] at A6)
         (try rw [hji44] at A7)
         (try rw [hji44] at A42)
         have hji44w : (IntKind.i64.wrap (t363 + 1)) = ji44 := (i64_w _).trans hji44
         by_cases c45 : 0 ≤ (ji44)
         ·rw [if_pos c45] at H
          have c45b0 := eq_true c45
          have c45b1 : decide (0 ≤ (ji44)) = true := decide_eq_true c45
          clear c45
          by_cases c46 : (ji44) ≤ (a1.size : Int)
          ·rw [if_pos c46] at H
           have c46b0 := eq_true c46
           have c46b1 : decide ((ji44) ≤ (a1.size : Int)) = true := decide_eq_true c46
           clear c46
           by_cases c47 : ((a1.extract 0 (t363 : Int).toNat).size + (strOfNums y378).size) + (a1.extract ((ji44) : Int).toNat a1.size).size ≤ 9223372036854775807
           ·rw [if_pos c47] at H
            have c47b0 := eq_true c47
            have c47b1 : decide (((a1.extract 0 (t363 : Int).toNat).size + (strOfNums y378).size) + (a1.extract ((ji44) : Int).toNat a1.size).size ≤ 9223372036854775807) = true := decide_eq_true c47
            try have c47b2 : (9223372036854775807 < ((a1.extract 0 (t363 : Int).toNat).size + (strOfNums y378).size) + (a1.extract ((ji44) : Int).toNat a1.size).size) = False := eq_false (Nat.not_lt.2 c47)
            try (have c47b4 : (9223372036854775807 < (t363.toNat + (strOfNums y378).size) + (a1.size - ((ji44) : Int).toNat)) = False := by (have h_ := c47; refine eq_false (fun h__ => ?_); simp only [eq_iff_iff, iff_true, decide_eq_true_eq, ByteArray.size_extract] at *; omega))
            simp only [Option.some.injEq, Prod.mk.injEq] at H
            obtain ⟨rfl, rfl, rfl⟩ := H
            go_enter Try.func92, Try.ntmps92
            try go_wp2_with (first | ((with_reducible refine gC 102 rfl ?_); refine goesZ (some 14) rfl Try.func102 #[.pointer (some ⟨g, 0, none⟩), .int .i64 (a1.size : Int)] ?_; (with_reducible refine (spec_l1Below.calls g s0_0 s0_1 s0_2 (a1.size : Int) t363 t364 t365 w0 _ ?side1 ?side2 A6.out).mono ?_); (case side1 => repeat (first | (with_reducible first | exact HI0.out | apply IsS136.alloc | apply IsS136.drewN | apply IsS136.drew | apply IsS136.set_1 | apply IsS136.set_2) | exact HI0.out)); (case side2 => repeat (first | (with_reducible first | exact HB.out | apply below_alloc | apply pw_below_drewN | apply below_drew1 | refine below_set ?_ (IsS136.ge HI0.out)) | exact HB.out)); rintro e w48 ⟨rfl, hi, hb, hk⟩; refine ⟨_, rfl, ?_⟩; replace HK := Aside0.mk (KeepBut.trans (by repeat (first | (with_reducible first | exact HK.out | apply KeepBut.set_ | apply keep_drewN | apply keep_drew | apply keep_alloc) | exact HK.out)) hk (.inl rfl)); replace HB := Aside0.mk (hb); replace HI0 := Aside0.mk (hi); (try clear hb hk hi)) | ((with_reducible refine gC 102 rfl ?_); refine goesZ (some 16) rfl Try.func102 #[.pointer (some ⟨g, 0, none⟩), .int .i64 4] ?_; (with_reducible refine (spec_l1Below.calls g s0_0 t364 t365 4 t366 t367 t368 w0 _ ?side1 ?side2 A7.out).mono ?_); (case side1 => repeat (first | (with_reducible first | exact HI0.out | apply IsS136.alloc | apply IsS136.drewN | apply IsS136.drew | apply IsS136.set_1 | apply IsS136.set_2) | exact HI0.out)); (case side2 => repeat (first | (with_reducible first | exact HB.out | apply below_alloc | apply pw_below_drewN | apply below_drew1 | refine below_set ?_ (IsS136.ge HI0.out)) | exact HB.out)); rintro e w49 ⟨rfl, hi, hb, hk⟩; refine ⟨_, rfl, ?_⟩; replace HK := Aside0.mk (KeepBut.trans (by repeat (first | (with_reducible first | exact HK.out | apply KeepBut.set_ | apply keep_drewN | apply keep_drew | apply keep_alloc) | exact HK.out)) hk (.inl rfl)); replace HB := Aside0.mk (hb); replace HI0 := Aside0.mk (hi); (try clear hb hk hi)))
            replace HI0 := Aside0.mk (IsS136.drew HI0.out); replace HK := Aside0.mk (keep_drew HK.out); replace HB := Aside0.mk (below_drew1 HB.out)
            have p41 : 0 ≤ (t363 : Int) := of_decide_eq_true am
            have q41 : t363 < (a1.size : Int) := of_decide_eq_true am
            have hx41 := bt_at a1 t363
            replace p41 := eq_true p41
            replace q41 := eq_true q41
            refine start_ (n := 21) (S := fun w' => True) (ds := []) (bo 21 0) (by kernel_rfl) rfl rfl trivial (fun hHeld => ?_); refine with_tabW spec_l1Spoil.tab11 spec_l1Spoil.bits11 (fun HT_ HW_ => ?_)
            generalize w49.drew = w50 at HI0 HK HB hHeld ⊢
            refine pV 0 47 (bo 21 1) ?_
            refine pV 1 48 (bo 21 3) ?_
            refine pV 2 49 (bo 21 7) ?_
            refine pV 3 50 (bo 21 15) ?_
            refine pV 4 51 (bo 21 31) ?_
            refine pV 7 54 (bo 21 159) ?_
            refine pV 15 62 (bo 21 32927) ?_
            refine pV 16 63 (bo 21 98463) ?_
            refine pV 17 64 (bo 21 229535) ?_
            refine pV 18 65 (bo 21 491679) ?_
            refine take_ (i := 5) (N := some 52) (v := ?_) (a' := ?_) (bo 21 491711) rfl rfl (take_ofW HT_.out HW_.out (by kernel_rfl)) (fun _ _ _ h => h) (Or.inl ⟨by rfl, ?_⟩) hHeld ?_ ?_
            rotate_left
            ·intro w' _
             go_simp
             with_reducible rfl
            rotate_left
            ·simp only [Act.put, List.setIfInBounds_toArray, List.set_cons_zero, List.set_cons_succ, i64_w, i32_w]
             rfl
            refine pV 6 53 (bo 21 491775) ?_
            refine one_ (i := 8) (N := some 55) (bo 21 492031) rfl rfl (one_of HT_.out (by kernel_rfl)) (by decide) (fun K hK => ?_)
            refine goes_ Try.func102 (by kernel_rfl) rfl #[.pointer (some ⟨g, 0, none⟩), .int .i64 255] (by rfl) rfl rfl sa ?_
            with_reducible refine (spec_l1Below.calls g s0_0 t367 t368 255 t375 t376 t377 w0 _ ?side1 ?side2 A42.out).mono ?_
            (case side1 => repeat (first | (with_reducible first | exact HI0.out | apply IsS136.alloc | apply IsS136.drewN | apply IsS136.drew | apply IsS136.set_1 | apply IsS136.set_2) | exact HI0.out))
            (case side2 => repeat (first | (with_reducible first | exact HB.out | apply below_alloc | apply pw_below_drewN | apply below_drew1 | refine below_set ?_ (IsS136.ge HI0.out)) | exact HB.out))
            rintro e w51 ⟨rfl, hi, hb, hk⟩
            refine ⟨_, rfl, ?_⟩
            replace HK := Aside0.mk (KeepBut.trans (by repeat (first | (with_reducible first | exact HK.out | apply KeepBut.set_ | apply keep_drewN | apply keep_drew | apply keep_alloc) | exact HK.out)) hk (.inl rfl)); replace HB := Aside0.mk (hb); replace HI0 := Aside0.mk (hi); (try clear hb hb2 hk hi)
            refine hK.out _ _ trivial (fun hHeld => ?_)
            clear hK K
            refine norm_ (a' := ?_) ?_ ?_
            rotate_left
            ·show Act.put _ (some 55) _ = _
             simp only [Act.put, List.setIfInBounds_toArray, List.set_cons_zero, List.set_cons_succ, i64_w, i32_w]
             rfl
            refine pV 9 56 (bo 21 492543) ?_
            refine pV 10 57 (bo 21 493567) ?_
            refine pV 11 58 (bo 21 495615) ?_
            refine one_ (i := 12) (N := some 59) (bo 21 499711) rfl rfl (one_of HT_.out (by kernel_rfl)) (by decide) (fun K hK => ?_)
            refine Kd.R_lit_step (Kd.int .u8) _ 5 ?hg (N := 59) ?hd (xs := ([(Go.bits .xor .i64 (wrap64 (bt a1 t363)) (wrap64 (1 + t375))) % 256] : List Int)) (inner := [.int .u8 ((Go.bits .xor .i64 (wrap64 (bt a1 t363)) (wrap64 (1 + t375))) % 256)]) (ok := fun _ => True) (okp := fun _ => True) ?hr ?hp (fun _ hk => hk) trivial (Below.refl _ _) (Nat.le_refl _) (by simp) ?_; (case hd => rfl); (case hg => rfl); (case hr => first | (go_simp; done) | (go_simp; rfl)); (case hp => exact (Reps.one (show Kd.M (Kd.int .u8) _ _ _ ((Go.bits .xor .i64 (wrap64 (bt a1 t363)) (wrap64 (1 + t375))) % 256) [.int .u8 ((Go.bits .xor .i64 (wrap64 (bt a1 t363)) (wrap64 (1 + t375))) % 256)] from rfl) (Reps.none _ _)))
            intro v379 w52 ho53 hb hg_ hnew_
            clear hg_ hnew_
            (first | rw [← Ny378.out] at ho53 | (simp only [Int.reduceToNat] at ho53; rw [← Ny378.out] at ho53))
            have HO380 := Aside0.mk (Kd.R_lower ho53 (keep_size (w := w) (g := g) (row := none) (by repeat (first | (with_reducible first | exact HK.out | apply KeepBut.set_ | apply keep_drewN | apply keep_drew | apply keep_alloc) | exact HK.out)))); replace HK := Aside0.mk (KeepBut.trans (by repeat (first | (with_reducible first | exact HK.out | apply KeepBut.set_ | apply keep_drewN | apply keep_drew | apply keep_alloc) | exact HK.out)) (KeepBut.of_below hb g none) (.inl rfl)); replace HB := Aside0.mk (below_step (by repeat (first | (with_reducible first | exact HB.out | apply below_alloc | apply pw_below_drewN | apply below_drew1 | refine below_set ?_ (IsS136.ge HI0.out)) | exact HB.out)) hb); replace HI0 := Aside0.mk (IsS136.below (by repeat (first | (with_reducible first | exact HI0.out | apply IsS136.alloc | apply IsS136.drewN | apply IsS136.drew | apply IsS136.set_1 | apply IsS136.set_2) | exact HI0.out)) hb); clear hb ho53
            refine hK.out _ _ trivial (fun hHeld => ?_)
            clear hK K
            refine norm_ (a' := ?_) ?_ ?_
            rotate_left
            ·show Act.put _ (some 59) _ = _
             simp only [Act.put, List.setIfInBounds_toArray, List.set_cons_zero, List.set_cons_succ, i64_w, i32_w]
             rfl
            refine one_ (i := 13) (N := some 60) (bo 21 507903) rfl rfl (one_of HT_.out (by kernel_rfl)) (by decide) (fun K hK => ?_)
            have hcv54 := own_string (P := Try.prog) Try.underlying37 Try.underlying5 Try.underlying9 (Kd.own_of_R HO380.out)
            refine value_ (w1 := ?_) (v := ?_) (by rfl) rfl ?_ ?_
            rotate_left 2
            ·go_simp
             constructor
             ·rfl
             ·rfl
            clear hcv54
            refine hK.out _ _ trivial (fun hHeld => ?_)
            clear hK K
            refine norm_ (a' := ?_) ?_ ?_
            rotate_left
            ·show Act.put _ (some 60) _ = _
             simp only [Act.put, List.setIfInBounds_toArray, List.set_cons_zero, List.set_cons_succ, i64_w, i32_w]
             rfl
            refine pV 14 61 (bo 21 524287) ?_
            refine pV 19 66 (bo 21 1048575) ?_
            refine pV 20 4 (bo 21 2097151) ?_
            refine done_ (done_of HT_.out (by kernel_rfl)) ?_
            try go_wp2
            go_ret
            exact ⟨by first | rfl | (simp [errW_none, errW_some] <;> rfl) | (simp only [← hji44]; first | rfl | (simp [errW_none, errW_some] <;> rfl)) | (simp [*, errW_none, errW_some] <;> rfl), by repeat (first | (with_reducible first | exact HI0.out | apply IsS136.alloc | apply IsS136.drewN | apply IsS136.drew | apply IsS136.set_1 | apply IsS136.set_2) | exact HI0.out), by repeat (first | (with_reducible first | exact HB.out | apply below_alloc | apply pw_below_drewN | apply below_drew1 | refine below_set ?_ (IsS136.ge HI0.out)) | exact HB.out), by repeat (first | (with_reducible first | exact HK.out | apply KeepBut.set_ | apply keep_drewN | apply keep_drew | apply keep_alloc) | exact HK.out)⟩
           ·rw [if_neg c47] at H
            exact absurd H (by simp)
          ·rw [if_neg c46] at H
           exact absurd H (by simp)
         ·rw [if_neg c45] at H
          exact absurd H (by simp)
        ·rw [if_neg c43] at H
         exact absurd H (by simp)
       ·rw [if_neg c40] at H
        exact absurd H (by simp)
      ·rw [if_neg c39] at H
       exact absurd H (by simp)
     ·rw [if_neg c38] at H
      exact absurd H (by simp)

end Go.Proofs.Ytfmddjbekophnaa.PFnBits
