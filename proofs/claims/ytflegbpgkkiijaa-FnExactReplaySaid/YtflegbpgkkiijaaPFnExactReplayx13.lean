-- PRINTED by print.py (a twelfth state) out of the translation. Not trusted: Lean checks it.
import Derived.Test.YtflegbpgkkiijaaPFnExactReplayx0
import Derived.Test.YtflegbpgkkiijaaPFnExactReplayx12
import Derived.Test.YtflegbpgkkiijaaZip
namespace Go.Proofs.Ytflegbpgkkiijaa.PFnExactReplay
open Go.RowKit Go.Proofs.YtflegbpgkkiijaaW.PrintWords Go.Proofs.YtflegbpgkkiijaaW.PrintLast Go.Proofs.YtflegbpgkkiijaaW.PrintMore Go.Proofs.Ytflegbpgkkiijaa.Zip
attribute [local go_sem] max2_int min2_int max_two min_two max_three min_three max_four min_four   -- for this text's walks alone
set_option linter.unusedVariables false
set_option linter.unusedSimpArgs false

/-! ### impl_ShowRec: function 28 -/
def impl_ShowRec.f (k : Nat) (a0_0 : Int) (a0_1 : Int) (a0_2 : Int) (a0_3 : Int) (a0_4 : ByteArray) : Option (ByteArray) := (impl_RecOk.f a0_0 a0_1 a0_2 a0_3 a0_4).bind fun t282 => (if t282 = true then ((some (([(a0_0) % 256] : List Int) : List Int)).bind fun y283 => ((impl_Var.f k a0_1).bind fun t286 => (if (strOfNums y283).size + t286.size ≤ 9223372036854775807 then ((impl_Var.f k a0_2).bind fun t287 => (if ((strOfNums y283).size + t286.size) + t287.size ≤ 9223372036854775807 then ((impl_Var.f k (wrap64 (a0_3 + 1))).bind fun t288 => (if (((strOfNums y283).size + t286.size) + t287.size) + t288.size ≤ 9223372036854775807 then (if ((((strOfNums y283).size + t286.size) + t287.size) + t288.size) + a0_4.size ≤ 9223372036854775807 then (some (((((strOfNums y283) ++ t286) ++ t287) ++ t288) ++ a0_4)) else (none)) else (none))) else (none))) else (none)))) else (some (⟨#[]⟩ : ByteArray)))
theorem impl_ShowRec.mono : ∀ a0 a1 a2 a3 a4 k, LeO (impl_ShowRec.f k a0 a1 a2 a3 a4) (impl_ShowRec.f (k + 1) a0 a1 a2 a3 a4) := by
 intro a0 a1 a2 a3 a4 k
 unfold impl_ShowRec.f
 repeat' first
  | (with_reducible exact impl_Var.mono _ _)
  | (with_reducible exact LeO.refl _)
  | (with_reducible exact LeO.none _)
  | (with_reducible refine LeO.ite ?_ ?_)
  | (with_reducible refine LeO.bind ?_ (fun _ => ?_))
  | exact impl_Var.mono _ _
  | exact LeO.none _
  | refine LeO.ite ?_ ?_
  | refine LeO.bind ?_ (fun _ => ?_)
def impl_ShowRec.T3 : Bool × List (List Nat × List Nat) := (true, [([], []), ([0], [0]), ([1], [1]), ([2], [2]), ([3], [3]), ([], []), ([5], [5]), ([6], [6]), ([4, 7], [4, 7]), ([], []), ([9], [9]), ([10, 7], [10]), ([8, 11], [8, 11]), ([], []), ([13], [13]), ([14], [14]), ([15, 11], [15]), ([12, 16], [12, 16]), ([], []), ([18], [18]), ([17, 19], [17, 19]), ([20, 16, 0, 1, 2, 3, 4, 5, 6, 7, 8, 9, 10, 11, 12, 13, 14, 15, 16, 17, 18, 19, 20], [20])])
def impl_ShowRec.B3 : List Nat := [0, 1, 3, 7, 15, 0, 32, 96, 255, 0, 512, 1760, 4095, 0, 8192, 24576, 61152, 131071, 0, 262144, 1048575, 2097151]
theorem impl_ShowRec.tab3 : rtab .any (opsOf Try.f28 3) = impl_ShowRec.T3 := by kernel_rfl
theorem impl_ShowRec.bits3 : waitsOk impl_ShowRec.T3.2 impl_ShowRec.B3 = true := by kernel_rfl
set_option maxHeartbeats 8000000 in
set_option maxRecDepth 100000 in
theorem impl_ShowRec.calls (k : Nat) (a0_0 : Int) (a0_1 : Int) (a0_2 : Int) (a0_3 : Int) (a0_4 : ByteArray) (r : ByteArray) (w : World) (h : impl_ShowRec.f k a0_0 a0_1 a0_2 a0_3 a0_4 = some r) :
 Calls Try.prog 28 #[.agg #[.int .i64 a0_0, .int .i64 a0_1, .int .i64 a0_2, .int .i64 a0_3, .string a0_4]] w fun e w' => e = .returned (.string r) ∧ Below w.heap.size w w' := by
 have hu34 := Try.underlying34
 have HB := Aside0.mk (Below.refl w.heap.size w)
 have H : ((impl_RecOk.f a0_0 a0_1 a0_2 a0_3 a0_4).bind fun t282 => (if t282 = true then ((some (([(a0_0) % 256] : List Int) : List Int)).bind fun y283 => ((impl_Var.f k a0_1).bind fun t286 => (if (strOfNums y283).size + t286.size ≤ 9223372036854775807 then ((impl_Var.f k a0_2).bind fun t287 => (if ((strOfNums y283).size + t286.size) + t287.size ≤ 9223372036854775807 then ((impl_Var.f k (wrap64 (a0_3 + 1))).bind fun t288 => (if (((strOfNums y283).size + t286.size) + t287.size) + t288.size ≤ 9223372036854775807 then (if ((((strOfNums y283).size + t286.size) + t287.size) + t288.size) + a0_4.size ≤ 9223372036854775807 then (some (((((strOfNums y283) ++ t286) ++ t287) ++ t288) ++ a0_4)) else (none)) else (none))) else (none))) else (none)))) else (some (⟨#[]⟩ : ByteArray)))) = some r := h
 clear h
 obtain ⟨t282, A2, H⟩ := bd H
 by_cases c3 : t282 = true
 ·subst c3
  replace H := iT H
  obtain ⟨y283, hy283⟩ : ∃ y_ : List Int, y_ = (([(a0_0) % 256] : List Int)) := ⟨_, rfl⟩
  replace H : ((impl_Var.f k a0_1).bind fun t286 => (if (strOfNums y283).size + t286.size ≤ 9223372036854775807 then ((impl_Var.f k a0_2).bind fun t287 => (if ((strOfNums y283).size + t286.size) + t287.size ≤ 9223372036854775807 then ((impl_Var.f k (wrap64 (a0_3 + 1))).bind fun t288 => (if (((strOfNums y283).size + t286.size) + t287.size) + t288.size ≤ 9223372036854775807 then (if ((((strOfNums y283).size + t286.size) + t287.size) + t288.size) + a0_4.size ≤ 9223372036854775807 then (some (((((strOfNums y283) ++ t286) ++ t287) ++ t288) ++ a0_4)) else (none)) else (none))) else (none))) else (none))) = some r := by first | (rw [hy283]; with_reducible exact H) | (have H2_ := (Option.bind_some _ _).symm.trans H; rw [hy283]; with_reducible exact H2_) | (have H2_ := (Option.bind_some _ _).symm.trans H; with_reducible exact H2_) | with_reducible exact H | (rw [hy283]; exact H) | exact H
  have Ny283 := Aside0.mk hy283
  clear hy283
  obtain ⟨t286, A4, H⟩ := bd H
  by_cases c5 : (strOfNums y283).size + t286.size ≤ 9223372036854775807
  ·rw [if_pos c5] at H
   have c5b0 := eq_true c5
   have c5b1 : decide ((strOfNums y283).size + t286.size ≤ 9223372036854775807) = true := decide_eq_true c5
   try have c5b2 : (9223372036854775807 < (strOfNums y283).size + t286.size) = False := eq_false (Nat.not_lt.2 c5)
   obtain ⟨t287, A6, H⟩ := bd H
   by_cases c7 : ((strOfNums y283).size + t286.size) + t287.size ≤ 9223372036854775807
   ·rw [if_pos c7] at H
    have c7b0 := eq_true c7
    have c7b1 : decide (((strOfNums y283).size + t286.size) + t287.size ≤ 9223372036854775807) = true := decide_eq_true c7
    try have c7b2 : (9223372036854775807 < ((strOfNums y283).size + t286.size) + t287.size) = False := eq_false (Nat.not_lt.2 c7)
    obtain ⟨t288, A8, H⟩ := bd H
    by_cases c9 : (((strOfNums y283).size + t286.size) + t287.size) + t288.size ≤ 9223372036854775807
    ·rw [if_pos c9] at H
     have c9b0 := eq_true c9
     have c9b1 : decide ((((strOfNums y283).size + t286.size) + t287.size) + t288.size ≤ 9223372036854775807) = true := decide_eq_true c9
     try have c9b2 : (9223372036854775807 < (((strOfNums y283).size + t286.size) + t287.size) + t288.size) = False := eq_false (Nat.not_lt.2 c9)
     by_cases c10 : ((((strOfNums y283).size + t286.size) + t287.size) + t288.size) + a0_4.size ≤ 9223372036854775807
     ·rw [if_pos c10] at H
      have c10b0 := eq_true c10
      have c10b1 : decide (((((strOfNums y283).size + t286.size) + t287.size) + t288.size) + a0_4.size ≤ 9223372036854775807) = true := decide_eq_true c10
      try have c10b2 : (9223372036854775807 < ((((strOfNums y283).size + t286.size) + t287.size) + t288.size) + a0_4.size) = False := eq_false (Nat.not_lt.2 c10)
      obtain rfl := Option.some.inj H
      go_enter Try.func28, Try.ntmps28
      try go_wp2_with (first | ((with_reducible refine gD 1 rfl ?_); refine boxZ 1 #[.int .i64 a0_0, .int .i64 a0_1, .int .i64 a0_2, .int .i64 a0_3, .string a0_4] 34 ?_; intro gb281 hg w11 hbox hb; have BK281 := Aside0.mk hbox; have GW281 := gw (w := w) hg; have GE281 := gw (w := w) hg; replace HB := bs (w := w) hb; clear hb hbox hg; obtain ⟨Z12_0, Z12_1, Z12_2, Z12_3, Z12_4, Y12_0, Y12_1, Y12_2, Y12_3, Y12_4⟩ := cf5 BK281) | ((with_reducible refine gC 31 rfl ?_); refine goesZ (some 4) rfl Try.func31 #[.agg #[.int .i64 a0_0, .int .i64 a0_1, .int .i64 a0_2, .int .i64 a0_3, .string a0_4]] ?_; (with_reducible refine (impl_RecOk.calls a0_0 a0_1 a0_2 a0_3 a0_4 true _ A2.out).mono ?_); rintro e w13 ⟨rfl, hb⟩; refine ⟨_, rfl, ?_⟩; replace BK281 := bv BK281 hb; replace HB := bs (w := w) hb; (try clear hb)))
      replace BK281 := Aside0.mk (blk_drew BK281.out); replace HB := Aside0.mk (below_drew1 HB.out)
      refine start_ (n := 22) (S := fun w' => w'.cell? ⟨gb281, 0, none⟩ = some (.int .i64 a0_0) ∧ w'.cell? ⟨gb281, 1, none⟩ = some (.int .i64 a0_1) ∧ w'.cell? ⟨gb281, 2, none⟩ = some (.int .i64 a0_2) ∧ w'.cell? ⟨gb281, 3, none⟩ = some (.int .i64 a0_3) ∧ w'.cell? ⟨gb281, 4, none⟩ = some (.string a0_4)) (ds := []) (bo 22 0) (by kernel_rfl) rfl rfl ⟨cb 0 BK281, cb 1 BK281, cb 2 BK281, cb 3 BK281, cb 4 BK281⟩ (fun hHeld => ?_); refine with_tabW impl_ShowRec.tab3 impl_ShowRec.bits3 (fun HT_ HW_ => ?_)
      generalize w13.drew = w14 at BK281 HB hHeld ⊢
      refine pV 0 6 (bo 22 1) ?_
      refine pV 5 11 (bo 22 33) ?_
      refine pV 9 15 (bo 22 545) ?_
      refine pV 13 19 (bo 22 8737) ?_
      refine pV 18 24 (bo 22 270881) ?_
      refine tV 1 7 (bo 22 270883) ?_
      refine pV 2 8 (bo 22 270887) ?_
      refine tV 6 12 (bo 22 270951) ?_
      refine tV 10 16 (bo 22 271975) ?_
      refine tV 14 20 (bo 22 288359) ?_
      refine pV 15 21 (bo 22 321127) ?_
      refine tV 19 25 (bo 22 845415) ?_
      refine join_ (σ := Value) 3 (bo 22 917503) (fun s_ => [(9, s_), (10, .string (strOfNums y283)), (13, .string t286), (17, .string t287), (22, .string t288), (14, .string ((strOfNums y283) ++ t286)), (18, .string (((strOfNums y283) ++ t286) ++ t287))]) (fun s_ w' => (w'.cell? ⟨gb281, 0, none⟩ = some (.int .i64 a0_0) ∧ w'.cell? ⟨gb281, 1, none⟩ = some (.int .i64 a0_1) ∧ w'.cell? ⟨gb281, 2, none⟩ = some (.int .i64 a0_2) ∧ w'.cell? ⟨gb281, 3, none⟩ = some (.int .i64 a0_3) ∧ w'.cell? ⟨gb281, 4, none⟩ = some (.string a0_4)) ∧ (Kd.R (Kd.int .u8) 5 w' w.heap.size (fun _ => True) s_ y283) ∧ (w'.heap[gb281]? = some (.cells #[.int .i64 a0_0, .int .i64 a0_1, .int .i64 a0_2, .int .i64 a0_3, .string a0_4] 34 (0, 0))) ∧ (Below w.heap.size w w')) ?_ ?_
      rotate_left
      ·intro hJ3_4_7_11_16
       refine join_ (σ := Value) 4 (bo 22 851967) (fun s_ => [(9, s_), (10, .string (strOfNums y283)), (13, .string t286), (17, .string t287), (14, .string ((strOfNums y283) ++ t286)), (18, .string (((strOfNums y283) ++ t286) ++ t287))]) (fun s_ w' => (w'.cell? ⟨gb281, 0, none⟩ = some (.int .i64 a0_0) ∧ w'.cell? ⟨gb281, 1, none⟩ = some (.int .i64 a0_1) ∧ w'.cell? ⟨gb281, 2, none⟩ = some (.int .i64 a0_2) ∧ w'.cell? ⟨gb281, 3, none⟩ = some (.int .i64 a0_3) ∧ w'.cell? ⟨gb281, 4, none⟩ = some (.string a0_4)) ∧ (Kd.R (Kd.int .u8) 5 w' w.heap.size (fun _ => True) s_ y283) ∧ (w'.heap[gb281]? = some (.cells #[.int .i64 a0_0, .int .i64 a0_1, .int .i64 a0_2, .int .i64 a0_3, .string a0_4] 34 (0, 0))) ∧ (Below w.heap.size w w')) ?_ ?_
       rotate_left
       ·intro hJ3_4_7_11
        refine join_ (σ := Value) 6 (bo 22 913135) (fun s_ => [(9, s_), (13, .string t286), (17, .string t287), (22, .string t288)]) (fun s_ w' => (w'.cell? ⟨gb281, 0, none⟩ = some (.int .i64 a0_0) ∧ w'.cell? ⟨gb281, 1, none⟩ = some (.int .i64 a0_1) ∧ w'.cell? ⟨gb281, 2, none⟩ = some (.int .i64 a0_2) ∧ w'.cell? ⟨gb281, 3, none⟩ = some (.int .i64 a0_3) ∧ w'.cell? ⟨gb281, 4, none⟩ = some (.string a0_4)) ∧ (Kd.R (Kd.int .u8) 5 w' w.heap.size (fun _ => True) s_ y283) ∧ (w'.heap[gb281]? = some (.cells #[.int .i64 a0_0, .int .i64 a0_1, .int .i64 a0_2, .int .i64 a0_3, .string a0_4] 34 (0, 0))) ∧ (Below w.heap.size w w')) ?_ ?_
        rotate_left
        ·intro hJ3_7_11_16
         refine join_ (σ := Value) 6 (bo 22 845823) (fun s_ => [(9, s_), (10, .string (strOfNums y283)), (13, .string t286), (14, .string ((strOfNums y283) ++ t286))]) (fun s_ w' => (w'.cell? ⟨gb281, 0, none⟩ = some (.int .i64 a0_0) ∧ w'.cell? ⟨gb281, 1, none⟩ = some (.int .i64 a0_1) ∧ w'.cell? ⟨gb281, 2, none⟩ = some (.int .i64 a0_2) ∧ w'.cell? ⟨gb281, 3, none⟩ = some (.int .i64 a0_3) ∧ w'.cell? ⟨gb281, 4, none⟩ = some (.string a0_4)) ∧ (Kd.R (Kd.int .u8) 5 w' w.heap.size (fun _ => True) s_ y283) ∧ (w'.heap[gb281]? = some (.cells #[.int .i64 a0_0, .int .i64 a0_1, .int .i64 a0_2, .int .i64 a0_3, .string a0_4] 34 (0, 0))) ∧ (Below w.heap.size w w')) ?_ ?_
         rotate_left
         ·intro hJ3_4_7
          refine join_ (σ := Value) 7 (bo 22 847599) (fun s_ => [(9, s_), (13, .string t286), (17, .string t287)]) (fun s_ w' => (w'.cell? ⟨gb281, 0, none⟩ = some (.int .i64 a0_0) ∧ w'.cell? ⟨gb281, 1, none⟩ = some (.int .i64 a0_1) ∧ w'.cell? ⟨gb281, 2, none⟩ = some (.int .i64 a0_2) ∧ w'.cell? ⟨gb281, 3, none⟩ = some (.int .i64 a0_3) ∧ w'.cell? ⟨gb281, 4, none⟩ = some (.string a0_4)) ∧ (Kd.R (Kd.int .u8) 5 w' w.heap.size (fun _ => True) s_ y283) ∧ (w'.heap[gb281]? = some (.cells #[.int .i64 a0_0, .int .i64 a0_1, .int .i64 a0_2, .int .i64 a0_3, .string a0_4] 34 (0, 0))) ∧ (Below w.heap.size w w')) ?_ ?_
          rotate_left
          ·intro hJ3_7_11
           refine join_ (σ := Unit) 7 (bo 22 913127) (fun s_ => [(13, .string t286), (17, .string t287), (22, .string t288)]) (fun s_ w' => (w'.cell? ⟨gb281, 0, none⟩ = some (.int .i64 a0_0) ∧ w'.cell? ⟨gb281, 1, none⟩ = some (.int .i64 a0_1) ∧ w'.cell? ⟨gb281, 2, none⟩ = some (.int .i64 a0_2) ∧ w'.cell? ⟨gb281, 3, none⟩ = some (.int .i64 a0_3) ∧ w'.cell? ⟨gb281, 4, none⟩ = some (.string a0_4)) ∧ (w'.heap[gb281]? = some (.cells #[.int .i64 a0_0, .int .i64 a0_1, .int .i64 a0_2, .int .i64 a0_3, .string a0_4] 34 (0, 0))) ∧ (Below w.heap.size w w')) ?_ ?_
           rotate_left
           ·intro hJ7_11_16
            refine join_ (σ := Value) 8 (bo 22 845439) (fun s_ => [(9, s_), (10, .string (strOfNums y283))]) (fun s_ w' => (w'.cell? ⟨gb281, 0, none⟩ = some (.int .i64 a0_0) ∧ w'.cell? ⟨gb281, 1, none⟩ = some (.int .i64 a0_1) ∧ w'.cell? ⟨gb281, 2, none⟩ = some (.int .i64 a0_2) ∧ w'.cell? ⟨gb281, 3, none⟩ = some (.int .i64 a0_3) ∧ w'.cell? ⟨gb281, 4, none⟩ = some (.string a0_4)) ∧ (Kd.R (Kd.int .u8) 5 w' w.heap.size (fun _ => True) s_ y283) ∧ (w'.heap[gb281]? = some (.cells #[.int .i64 a0_0, .int .i64 a0_1, .int .i64 a0_2, .int .i64 a0_3, .string a0_4] 34 (0, 0))) ∧ (Below w.heap.size w w')) ?_ ?_
            rotate_left
            ·intro hJ3_4
             refine join_ (σ := Value) 8 (bo 22 845551) (fun s_ => [(9, s_), (13, .string t286)]) (fun s_ w' => (w'.cell? ⟨gb281, 0, none⟩ = some (.int .i64 a0_0) ∧ w'.cell? ⟨gb281, 1, none⟩ = some (.int .i64 a0_1) ∧ w'.cell? ⟨gb281, 2, none⟩ = some (.int .i64 a0_2) ∧ w'.cell? ⟨gb281, 3, none⟩ = some (.int .i64 a0_3) ∧ w'.cell? ⟨gb281, 4, none⟩ = some (.string a0_4)) ∧ (Kd.R (Kd.int .u8) 5 w' w.heap.size (fun _ => True) s_ y283) ∧ (w'.heap[gb281]? = some (.cells #[.int .i64 a0_0, .int .i64 a0_1, .int .i64 a0_2, .int .i64 a0_3, .string a0_4] 34 (0, 0))) ∧ (Below w.heap.size w w')) ?_ ?_
             rotate_left
             ·intro hJ3_7
              refine join_ (σ := Unit) 8 (bo 22 847591) (fun s_ => [(13, .string t286), (17, .string t287)]) (fun s_ w' => (w'.cell? ⟨gb281, 0, none⟩ = some (.int .i64 a0_0) ∧ w'.cell? ⟨gb281, 1, none⟩ = some (.int .i64 a0_1) ∧ w'.cell? ⟨gb281, 2, none⟩ = some (.int .i64 a0_2) ∧ w'.cell? ⟨gb281, 3, none⟩ = some (.int .i64 a0_3) ∧ w'.cell? ⟨gb281, 4, none⟩ = some (.string a0_4)) ∧ (w'.heap[gb281]? = some (.cells #[.int .i64 a0_0, .int .i64 a0_1, .int .i64 a0_2, .int .i64 a0_3, .string a0_4] 34 (0, 0))) ∧ (Below w.heap.size w w')) ?_ ?_
              rotate_left
              ·intro hJ7_11
               refine join_ (σ := Value) 9 (bo 22 845423) (fun s_ => [(9, s_)]) (fun s_ w' => (w'.cell? ⟨gb281, 0, none⟩ = some (.int .i64 a0_0) ∧ w'.cell? ⟨gb281, 1, none⟩ = some (.int .i64 a0_1) ∧ w'.cell? ⟨gb281, 2, none⟩ = some (.int .i64 a0_2) ∧ w'.cell? ⟨gb281, 3, none⟩ = some (.int .i64 a0_3) ∧ w'.cell? ⟨gb281, 4, none⟩ = some (.string a0_4)) ∧ (Kd.R (Kd.int .u8) 5 w' w.heap.size (fun _ => True) s_ y283) ∧ (w'.heap[gb281]? = some (.cells #[.int .i64 a0_0, .int .i64 a0_1, .int .i64 a0_2, .int .i64 a0_3, .string a0_4] 34 (0, 0))) ∧ (Below w.heap.size w w')) ?_ ?_
               rotate_left
               ·intro hJ3
                refine join_ (σ := Unit) 9 (bo 22 845543) (fun s_ => [(13, .string t286)]) (fun s_ w' => (w'.cell? ⟨gb281, 0, none⟩ = some (.int .i64 a0_0) ∧ w'.cell? ⟨gb281, 1, none⟩ = some (.int .i64 a0_1) ∧ w'.cell? ⟨gb281, 2, none⟩ = some (.int .i64 a0_2) ∧ w'.cell? ⟨gb281, 3, none⟩ = some (.int .i64 a0_3) ∧ w'.cell? ⟨gb281, 4, none⟩ = some (.string a0_4)) ∧ (w'.heap[gb281]? = some (.cells #[.int .i64 a0_0, .int .i64 a0_1, .int .i64 a0_2, .int .i64 a0_3, .string a0_4] 34 (0, 0))) ∧ (Below w.heap.size w w')) ?_ ?_
                rotate_left
                ·intro hJ7
                 refine two_ (i := 3) (j := 7) (Ni := some 9) (Nj := some 13) (bo 22 845423) (bo 22 845543) rfl rfl rfl rfl (two_of HT_.out (by kernel_rfl)) (by decide) (by decide) (fun K hK => ?_) (fun K hK => ?_)
                 ·skip
                  refine Kd.R_lit_step (Kd.int .u8) _ 5 ?hg (N := 9) ?hd (xs := ([(a0_0) % 256] : List Int)) (inner := [.int .u8 ((a0_0) % 256)]) (ok := fun _ => True) (okp := fun _ => True) ?hr ?hp (fun _ hk => hk) trivial (Below.refl _ _) (Nat.le_refl _) (by simp) ?_; (case hd => rfl); (case hg => rfl); (case hr => first | (go_simp; done) | (go_simp; rfl)); (case hp => exact (Reps.one (show Kd.M (Kd.int .u8) _ _ _ ((a0_0) % 256) [.int .u8 ((a0_0) % 256)] from rfl) (Reps.none _ _)))
                  intro v284 w15 ho16 hb hg_ hnew_
                  clear hg_ hnew_
                  (first | rw [← Ny283.out] at ho16 | (simp only [Int.reduceToNat] at ho16; rw [← Ny283.out] at ho16))
                  have HO285 := Aside0.mk (Kd.R_lower ho16 (below_size bl)); replace BK281 := bv BK281 hb; replace HB := bs (w := w) hb; clear hb ho16
                  refine hK.out _ _ ⟨cb 0 BK281, cb 1 BK281, cb 2 BK281, cb 3 BK281, cb 4 BK281⟩ (fun hHeld => ?_)
                  clear hK K
                  refine norm_ (a' := ?_) ?_ ?_
                  rotate_left
                  ·show Act.put _ (some 9) _ = _
                   simp only [Act.put, List.setIfInBounds_toArray, List.set_cons_zero, List.set_cons_succ, i64_w, i32_w]
                   rfl
                  exact norm_ pk (hJ3 (v284) _ ⟨hHeld, (rpR HO285.out), bk, bl⟩)
                 ·skip
                  refine goes_ Try.func47 (by kernel_rfl) rfl #[.int .i64 a0_1] (by rfl) rfl rfl sa ?_
                  with_reducible refine (impl_Var.calls k a0_1 t286 _ A4.out).mono ?_
                  rintro e w15 ⟨rfl, hb⟩
                  refine ⟨_, rfl, ?_⟩
                  replace BK281 := bv BK281 hb; replace HB := bs (w := w) hb; (try clear hb hb2 hk hi)
                  refine hK.out _ _ ⟨cb 0 BK281, cb 1 BK281, cb 2 BK281, cb 3 BK281, cb 4 BK281⟩ (fun hHeld => ?_)
                  clear hK K
                  refine norm_ (a' := ?_) ?_ ?_
                  rotate_left
                  ·show Act.put _ (some 13) _ = _
                   simp only [Act.put, List.setIfInBounds_toArray, List.set_cons_zero, List.set_cons_succ, i64_w, i32_w]
                   rfl
                  exact norm_ pk (hJ7 () _ ⟨hHeld, bk, bl⟩)
                ·skip
                 rintro _ w16 ⟨hS_, h0_, h1_⟩
                 have n0_ : Aside0 (w16.heap[gb281]? = some (.cells #[.int .i64 a0_0, .int .i64 a0_1, .int .i64 a0_2, .int .i64 a0_3, .string a0_4] 34 (0, 0))) := ⟨h0_⟩
                 have n1_ : Aside0 (Below w.heap.size w w16) := ⟨h1_⟩
                 clear BK281
                 clear HB
                 clear h0_ h1_
                 have BK281 := n0_
                 have HB := n1_
                 clear n0_ n1_
                 have hHeld : w16.cell? ⟨gb281, 0, none⟩ = some (.int .i64 a0_0) ∧ w16.cell? ⟨gb281, 1, none⟩ = some (.int .i64 a0_1) ∧ w16.cell? ⟨gb281, 2, none⟩ = some (.int .i64 a0_2) ∧ w16.cell? ⟨gb281, 3, none⟩ = some (.int .i64 a0_3) ∧ w16.cell? ⟨gb281, 4, none⟩ = some (.string a0_4) := hS_
                 refine norm_ (a' := ?_) ?_ ?_
                 rotate_left
                 ·simp only [putAll, Act.put, List.setIfInBounds_toArray, List.set_cons_zero, List.set_cons_succ]
                  rfl
                 refine two_ (i := 3) (j := 11) (Ni := some 9) (Nj := some 17) (bo 22 845551) (bo 22 847591) rfl rfl rfl rfl (two_of HT_.out (by kernel_rfl)) (by decide) (by decide) (fun K hK => ?_) (fun K hK => ?_)
                 ·skip
                  refine Kd.R_lit_step (Kd.int .u8) _ 5 ?hg (N := 9) ?hd (xs := ([(a0_0) % 256] : List Int)) (inner := [.int .u8 ((a0_0) % 256)]) (ok := fun _ => True) (okp := fun _ => True) ?hr ?hp (fun _ hk => hk) trivial (Below.refl _ _) (Nat.le_refl _) (by simp) ?_; (case hd => rfl); (case hg => rfl); (case hr => first | (go_simp; done) | (go_simp; rfl)); (case hp => exact (Reps.one (show Kd.M (Kd.int .u8) _ _ _ ((a0_0) % 256) [.int .u8 ((a0_0) % 256)] from rfl) (Reps.none _ _)))
                  intro v284 w17 ho18 hb hg_ hnew_
                  clear hg_ hnew_
                  (first | rw [← Ny283.out] at ho18 | (simp only [Int.reduceToNat] at ho18; rw [← Ny283.out] at ho18))
                  have HO285 := Aside0.mk (Kd.R_lower ho18 (below_size bl)); replace BK281 := bv BK281 hb; replace HB := bs (w := w) hb; clear hb ho18
                  refine hK.out _ _ ⟨cb 0 BK281, cb 1 BK281, cb 2 BK281, cb 3 BK281, cb 4 BK281⟩ (fun hHeld => ?_)
                  clear hK K
                  refine norm_ (a' := ?_) ?_ ?_
                  rotate_left
                  ·show Act.put _ (some 9) _ = _
                   simp only [Act.put, List.setIfInBounds_toArray, List.set_cons_zero, List.set_cons_succ, i64_w, i32_w]
                   rfl
                  exact norm_ pk (hJ3_7 (v284) _ ⟨hHeld, (rpR HO285.out), bk, bl⟩)
                 ·skip
                  refine goes_ Try.func47 (by kernel_rfl) rfl #[.int .i64 a0_2] (by rfl) rfl rfl sa ?_
                  with_reducible refine (impl_Var.calls k a0_2 t287 _ A6.out).mono ?_
                  rintro e w17 ⟨rfl, hb⟩
                  refine ⟨_, rfl, ?_⟩
                  replace BK281 := bv BK281 hb; replace HB := bs (w := w) hb; (try clear hb hb2 hk hi)
                  refine hK.out _ _ ⟨cb 0 BK281, cb 1 BK281, cb 2 BK281, cb 3 BK281, cb 4 BK281⟩ (fun hHeld => ?_)
                  clear hK K
                  refine norm_ (a' := ?_) ?_ ?_
                  rotate_left
                  ·show Act.put _ (some 17) _ = _
                   simp only [Act.put, List.setIfInBounds_toArray, List.set_cons_zero, List.set_cons_succ, i64_w, i32_w]
                   rfl
                  exact norm_ pk (hJ7_11 () _ ⟨hHeld, bk, bl⟩)
               ·skip
                rintro v284 w17 ⟨hS_, h0_, h1_, h2_⟩
                have n0_ : Aside0 (Kd.R (Kd.int .u8) 5 w17 w.heap.size (fun _ => True) v284 y283) := ⟨h0_⟩
                have n1_ : Aside0 (w17.heap[gb281]? = some (.cells #[.int .i64 a0_0, .int .i64 a0_1, .int .i64 a0_2, .int .i64 a0_3, .string a0_4] 34 (0, 0))) := ⟨h1_⟩
                have n2_ : Aside0 (Below w.heap.size w w17) := ⟨h2_⟩
                clear BK281
                clear HB
                clear h0_ h1_ h2_
                have HO285 := n0_
                have BK281 := n1_
                have HB := n2_
                clear n0_ n1_ n2_
                have hHeld : w17.cell? ⟨gb281, 0, none⟩ = some (.int .i64 a0_0) ∧ w17.cell? ⟨gb281, 1, none⟩ = some (.int .i64 a0_1) ∧ w17.cell? ⟨gb281, 2, none⟩ = some (.int .i64 a0_2) ∧ w17.cell? ⟨gb281, 3, none⟩ = some (.int .i64 a0_3) ∧ w17.cell? ⟨gb281, 4, none⟩ = some (.string a0_4) := hS_
                refine norm_ (a' := ?_) ?_ ?_
                rotate_left
                ·simp only [putAll, Act.put, List.setIfInBounds_toArray, List.set_cons_zero, List.set_cons_succ]
                 rfl
                refine two_ (i := 4) (j := 7) (Ni := some 10) (Nj := some 13) (bo 22 845439) (bo 22 845551) rfl rfl rfl rfl (two_of HT_.out (by kernel_rfl)) (by decide) (by decide) (fun K hK => ?_) (fun K hK => ?_)
                ·skip
                 have hcv18 := own_string (P := Try.prog) Try.underlying64 Try.underlying5 Try.underlying9 (Kd.own_of_R HO285.out)
                 refine value_ (w1 := ?_) (v := ?_) (by rfl) rfl ?_ ?_
                 rotate_left 2
                 ·go_simp
                  constructor
                  ·rfl
                  ·rfl
                 clear hcv18
                 refine hK.out _ _ ⟨cb 0 BK281, cb 1 BK281, cb 2 BK281, cb 3 BK281, cb 4 BK281⟩ (fun hHeld => ?_)
                 clear hK K
                 refine norm_ (a' := ?_) ?_ ?_
                 rotate_left
                 ·show Act.put _ (some 10) _ = _
                  simp only [Act.put, List.setIfInBounds_toArray, List.set_cons_zero, List.set_cons_succ, i64_w, i32_w]
                  rfl
                 exact norm_ pk (hJ3_4 (v284) _ ⟨hHeld, (rpR HO285.out), bk, bl⟩)
                ·skip
                 refine goes_ Try.func47 (by kernel_rfl) rfl #[.int .i64 a0_1] (by rfl) rfl rfl sa ?_
                 with_reducible refine (impl_Var.calls k a0_1 t286 _ A4.out).mono ?_
                 rintro e w18 ⟨rfl, hb⟩
                 refine ⟨_, rfl, ?_⟩
                 replace HO285 := Aside0.mk (Kd.R_below (rpR HO285.out) hb); replace BK281 := bv BK281 hb; replace HB := bs (w := w) hb; (try clear hb hb2 hk hi)
                 refine hK.out _ _ ⟨cb 0 BK281, cb 1 BK281, cb 2 BK281, cb 3 BK281, cb 4 BK281⟩ (fun hHeld => ?_)
                 clear hK K
                 refine norm_ (a' := ?_) ?_ ?_
                 rotate_left
                 ·show Act.put _ (some 13) _ = _
                  simp only [Act.put, List.setIfInBounds_toArray, List.set_cons_zero, List.set_cons_succ, i64_w, i32_w]
                  rfl
                 exact norm_ pk (hJ3_7 (v284) _ ⟨hHeld, (rpR HO285.out), bk, bl⟩)
              ·skip
               rintro _ w17 ⟨hS_, h0_, h1_⟩
               have n0_ : Aside0 (w17.heap[gb281]? = some (.cells #[.int .i64 a0_0, .int .i64 a0_1, .int .i64 a0_2, .int .i64 a0_3, .string a0_4] 34 (0, 0))) := ⟨h0_⟩
               have n1_ : Aside0 (Below w.heap.size w w17) := ⟨h1_⟩
               clear BK281
               clear HB
               clear h0_ h1_
               have BK281 := n0_
               have HB := n1_
               clear n0_ n1_
               have hHeld : w17.cell? ⟨gb281, 0, none⟩ = some (.int .i64 a0_0) ∧ w17.cell? ⟨gb281, 1, none⟩ = some (.int .i64 a0_1) ∧ w17.cell? ⟨gb281, 2, none⟩ = some (.int .i64 a0_2) ∧ w17.cell? ⟨gb281, 3, none⟩ = some (.int .i64 a0_3) ∧ w17.cell? ⟨gb281, 4, none⟩ = some (.string a0_4) := hS_
               refine norm_ (a' := ?_) ?_ ?_
               rotate_left
               ·simp only [putAll, Act.put, List.setIfInBounds_toArray, List.set_cons_zero, List.set_cons_succ]
                rfl
               refine two_ (i := 3) (j := 16) (Ni := some 9) (Nj := some 22) (bo 22 847599) (bo 22 913127) rfl rfl rfl rfl (two_of HT_.out (by kernel_rfl)) (by decide) (by decide) (fun K hK => ?_) (fun K hK => ?_)
               ·skip
                refine Kd.R_lit_step (Kd.int .u8) _ 5 ?hg (N := 9) ?hd (xs := ([(a0_0) % 256] : List Int)) (inner := [.int .u8 ((a0_0) % 256)]) (ok := fun _ => True) (okp := fun _ => True) ?hr ?hp (fun _ hk => hk) trivial (Below.refl _ _) (Nat.le_refl _) (by simp) ?_; (case hd => rfl); (case hg => rfl); (case hr => first | (go_simp; done) | (go_simp; rfl)); (case hp => exact (Reps.one (show Kd.M (Kd.int .u8) _ _ _ ((a0_0) % 256) [.int .u8 ((a0_0) % 256)] from rfl) (Reps.none _ _)))
                intro v284 w18 ho19 hb hg_ hnew_
                clear hg_ hnew_
                (first | rw [← Ny283.out] at ho19 | (simp only [Int.reduceToNat] at ho19; rw [← Ny283.out] at ho19))
                have HO285 := Aside0.mk (Kd.R_lower ho19 (below_size bl)); replace BK281 := bv BK281 hb; replace HB := bs (w := w) hb; clear hb ho19
                refine hK.out _ _ ⟨cb 0 BK281, cb 1 BK281, cb 2 BK281, cb 3 BK281, cb 4 BK281⟩ (fun hHeld => ?_)
                clear hK K
                refine norm_ (a' := ?_) ?_ ?_
                rotate_left
                ·show Act.put _ (some 9) _ = _
                 simp only [Act.put, List.setIfInBounds_toArray, List.set_cons_zero, List.set_cons_succ, i64_w, i32_w]
                 rfl
                exact norm_ pk (hJ3_7_11 (v284) _ ⟨hHeld, (rpR HO285.out), bk, bl⟩)
               ·skip
                refine goes_ Try.func47 (by kernel_rfl) rfl #[.int .i64 (wrap64 (a0_3 + 1))] (by rfl) rfl rfl sa ?_
                with_reducible refine (impl_Var.calls k (wrap64 (a0_3 + 1)) t288 _ A8.out).mono ?_
                rintro e w18 ⟨rfl, hb⟩
                refine ⟨_, rfl, ?_⟩
                replace BK281 := bv BK281 hb; replace HB := bs (w := w) hb; (try clear hb hb2 hk hi)
                refine hK.out _ _ ⟨cb 0 BK281, cb 1 BK281, cb 2 BK281, cb 3 BK281, cb 4 BK281⟩ (fun hHeld => ?_)
                clear hK K
                refine norm_ (a' := ?_) ?_ ?_
                rotate_left
                ·show Act.put _ (some 22) _ = _
                 simp only [Act.put, List.setIfInBounds_toArray, List.set_cons_zero, List.set_cons_succ, i64_w, i32_w]
                 rfl
                exact norm_ pk (hJ7_11_16 () _ ⟨hHeld, bk, bl⟩)
             ·skip
              rintro v284 w18 ⟨hS_, h0_, h1_, h2_⟩
              have n0_ : Aside0 (Kd.R (Kd.int .u8) 5 w18 w.heap.size (fun _ => True) v284 y283) := ⟨h0_⟩
              have n1_ : Aside0 (w18.heap[gb281]? = some (.cells #[.int .i64 a0_0, .int .i64 a0_1, .int .i64 a0_2, .int .i64 a0_3, .string a0_4] 34 (0, 0))) := ⟨h1_⟩
              have n2_ : Aside0 (Below w.heap.size w w18) := ⟨h2_⟩
              clear BK281
              clear HB
              clear h0_ h1_ h2_
              have HO285 := n0_
              have BK281 := n1_
              have HB := n2_
              clear n0_ n1_ n2_
              have hHeld : w18.cell? ⟨gb281, 0, none⟩ = some (.int .i64 a0_0) ∧ w18.cell? ⟨gb281, 1, none⟩ = some (.int .i64 a0_1) ∧ w18.cell? ⟨gb281, 2, none⟩ = some (.int .i64 a0_2) ∧ w18.cell? ⟨gb281, 3, none⟩ = some (.int .i64 a0_3) ∧ w18.cell? ⟨gb281, 4, none⟩ = some (.string a0_4) := hS_
              refine norm_ (a' := ?_) ?_ ?_
              rotate_left
              ·simp only [putAll, Act.put, List.setIfInBounds_toArray, List.set_cons_zero, List.set_cons_succ]
               rfl
              refine two_ (i := 4) (j := 11) (Ni := some 10) (Nj := some 17) (bo 22 845567) (bo 22 847599) rfl rfl rfl rfl (two_of HT_.out (by kernel_rfl)) (by decide) (by decide) (fun K hK => ?_) (fun K hK => ?_)
              ·skip
               have hcv19 := own_string (P := Try.prog) Try.underlying64 Try.underlying5 Try.underlying9 (Kd.own_of_R HO285.out)
               refine value_ (w1 := ?_) (v := ?_) (by rfl) rfl ?_ ?_
               rotate_left 2
               ·go_simp
                constructor
                ·rfl
                ·rfl
               clear hcv19
               refine hK.out _ _ ⟨cb 0 BK281, cb 1 BK281, cb 2 BK281, cb 3 BK281, cb 4 BK281⟩ (fun hHeld => ?_)
               clear hK K
               refine norm_ (a' := ?_) ?_ ?_
               rotate_left
               ·show Act.put _ (some 10) _ = _
                simp only [Act.put, List.setIfInBounds_toArray, List.set_cons_zero, List.set_cons_succ, i64_w, i32_w]
                rfl
               refine pV 8 14 (bo 22 845823) ?_
               exact norm_ pk (hJ3_4_7 (v284) _ ⟨hHeld, (rpR HO285.out), bk, bl⟩)
              ·skip
               refine goes_ Try.func47 (by kernel_rfl) rfl #[.int .i64 a0_2] (by rfl) rfl rfl sa ?_
               with_reducible refine (impl_Var.calls k a0_2 t287 _ A6.out).mono ?_
               rintro e w19 ⟨rfl, hb⟩
               refine ⟨_, rfl, ?_⟩
               replace HO285 := Aside0.mk (Kd.R_below (rpR HO285.out) hb); replace BK281 := bv BK281 hb; replace HB := bs (w := w) hb; (try clear hb hb2 hk hi)
               refine hK.out _ _ ⟨cb 0 BK281, cb 1 BK281, cb 2 BK281, cb 3 BK281, cb 4 BK281⟩ (fun hHeld => ?_)
               clear hK K
               refine norm_ (a' := ?_) ?_ ?_
               rotate_left
               ·show Act.put _ (some 17) _ = _
                simp only [Act.put, List.setIfInBounds_toArray, List.set_cons_zero, List.set_cons_succ, i64_w, i32_w]
                rfl
               exact norm_ pk (hJ3_7_11 (v284) _ ⟨hHeld, (rpR HO285.out), bk, bl⟩)
            ·skip
             rintro v284 w18 ⟨hS_, h0_, h1_, h2_⟩
             have n0_ : Aside0 (Kd.R (Kd.int .u8) 5 w18 w.heap.size (fun _ => True) v284 y283) := ⟨h0_⟩
             have n1_ : Aside0 (w18.heap[gb281]? = some (.cells #[.int .i64 a0_0, .int .i64 a0_1, .int .i64 a0_2, .int .i64 a0_3, .string a0_4] 34 (0, 0))) := ⟨h1_⟩
             have n2_ : Aside0 (Below w.heap.size w w18) := ⟨h2_⟩
             clear BK281
             clear HB
             clear h0_ h1_ h2_
             have HO285 := n0_
             have BK281 := n1_
             have HB := n2_
             clear n0_ n1_ n2_
             have hHeld : w18.cell? ⟨gb281, 0, none⟩ = some (.int .i64 a0_0) ∧ w18.cell? ⟨gb281, 1, none⟩ = some (.int .i64 a0_1) ∧ w18.cell? ⟨gb281, 2, none⟩ = some (.int .i64 a0_2) ∧ w18.cell? ⟨gb281, 3, none⟩ = some (.int .i64 a0_3) ∧ w18.cell? ⟨gb281, 4, none⟩ = some (.string a0_4) := hS_
             refine norm_ (a' := ?_) ?_ ?_
             rotate_left
             ·simp only [putAll, Act.put, List.setIfInBounds_toArray, List.set_cons_zero, List.set_cons_succ]
              rfl
             refine one_ (i := 7) (N := some 13) (bo 22 845567) rfl rfl (one_of HT_.out (by kernel_rfl)) (by decide) (fun K hK => ?_)
             refine goes_ Try.func47 (by kernel_rfl) rfl #[.int .i64 a0_1] (by rfl) rfl rfl sa ?_
             with_reducible refine (impl_Var.calls k a0_1 t286 _ A4.out).mono ?_
             rintro e w19 ⟨rfl, hb⟩
             refine ⟨_, rfl, ?_⟩
             replace HO285 := Aside0.mk (Kd.R_below (rpR HO285.out) hb); replace BK281 := bv BK281 hb; replace HB := bs (w := w) hb; (try clear hb hb2 hk hi)
             refine hK.out _ _ ⟨cb 0 BK281, cb 1 BK281, cb 2 BK281, cb 3 BK281, cb 4 BK281⟩ (fun hHeld => ?_)
             clear hK K
             refine norm_ (a' := ?_) ?_ ?_
             rotate_left
             ·show Act.put _ (some 13) _ = _
              simp only [Act.put, List.setIfInBounds_toArray, List.set_cons_zero, List.set_cons_succ, i64_w, i32_w]
              rfl
             refine pV 8 14 (bo 22 845823) ?_
             exact norm_ pk (hJ3_4_7 (v284) _ ⟨hHeld, (rpR HO285.out), bk, bl⟩)
           ·skip
            rintro _ w18 ⟨hS_, h0_, h1_⟩
            have n0_ : Aside0 (w18.heap[gb281]? = some (.cells #[.int .i64 a0_0, .int .i64 a0_1, .int .i64 a0_2, .int .i64 a0_3, .string a0_4] 34 (0, 0))) := ⟨h0_⟩
            have n1_ : Aside0 (Below w.heap.size w w18) := ⟨h1_⟩
            clear BK281
            clear HB
            clear h0_ h1_
            have BK281 := n0_
            have HB := n1_
            clear n0_ n1_
            have hHeld : w18.cell? ⟨gb281, 0, none⟩ = some (.int .i64 a0_0) ∧ w18.cell? ⟨gb281, 1, none⟩ = some (.int .i64 a0_1) ∧ w18.cell? ⟨gb281, 2, none⟩ = some (.int .i64 a0_2) ∧ w18.cell? ⟨gb281, 3, none⟩ = some (.int .i64 a0_3) ∧ w18.cell? ⟨gb281, 4, none⟩ = some (.string a0_4) := hS_
            refine norm_ (a' := ?_) ?_ ?_
            rotate_left
            ·simp only [putAll, Act.put, List.setIfInBounds_toArray, List.set_cons_zero, List.set_cons_succ]
             rfl
            refine one_ (i := 3) (N := some 9) (bo 22 913135) rfl rfl (one_of HT_.out (by kernel_rfl)) (by decide) (fun K hK => ?_)
            refine Kd.R_lit_step (Kd.int .u8) _ 5 ?hg (N := 9) ?hd (xs := ([(a0_0) % 256] : List Int)) (inner := [.int .u8 ((a0_0) % 256)]) (ok := fun _ => True) (okp := fun _ => True) ?hr ?hp (fun _ hk => hk) trivial (Below.refl _ _) (Nat.le_refl _) (by simp) ?_; (case hd => rfl); (case hg => rfl); (case hr => first | (go_simp; done) | (go_simp; rfl)); (case hp => exact (Reps.one (show Kd.M (Kd.int .u8) _ _ _ ((a0_0) % 256) [.int .u8 ((a0_0) % 256)] from rfl) (Reps.none _ _)))
            intro v284 w19 ho20 hb hg_ hnew_
            clear hg_ hnew_
            (first | rw [← Ny283.out] at ho20 | (simp only [Int.reduceToNat] at ho20; rw [← Ny283.out] at ho20))
            have HO285 := Aside0.mk (Kd.R_lower ho20 (below_size bl)); replace BK281 := bv BK281 hb; replace HB := bs (w := w) hb; clear hb ho20
            refine hK.out _ _ ⟨cb 0 BK281, cb 1 BK281, cb 2 BK281, cb 3 BK281, cb 4 BK281⟩ (fun hHeld => ?_)
            clear hK K
            refine norm_ (a' := ?_) ?_ ?_
            rotate_left
            ·show Act.put _ (some 9) _ = _
             simp only [Act.put, List.setIfInBounds_toArray, List.set_cons_zero, List.set_cons_succ, i64_w, i32_w]
             rfl
            exact norm_ pk (hJ3_7_11_16 (v284) _ ⟨hHeld, (rpR HO285.out), bk, bl⟩)
          ·skip
           rintro v284 w19 ⟨hS_, h0_, h1_, h2_⟩
           have n0_ : Aside0 (Kd.R (Kd.int .u8) 5 w19 w.heap.size (fun _ => True) v284 y283) := ⟨h0_⟩
           have n1_ : Aside0 (w19.heap[gb281]? = some (.cells #[.int .i64 a0_0, .int .i64 a0_1, .int .i64 a0_2, .int .i64 a0_3, .string a0_4] 34 (0, 0))) := ⟨h1_⟩
           have n2_ : Aside0 (Below w.heap.size w w19) := ⟨h2_⟩
           clear BK281
           clear HB
           clear h0_ h1_ h2_
           have HO285 := n0_
           have BK281 := n1_
           have HB := n2_
           clear n0_ n1_ n2_
           have hHeld : w19.cell? ⟨gb281, 0, none⟩ = some (.int .i64 a0_0) ∧ w19.cell? ⟨gb281, 1, none⟩ = some (.int .i64 a0_1) ∧ w19.cell? ⟨gb281, 2, none⟩ = some (.int .i64 a0_2) ∧ w19.cell? ⟨gb281, 3, none⟩ = some (.int .i64 a0_3) ∧ w19.cell? ⟨gb281, 4, none⟩ = some (.string a0_4) := hS_
           refine norm_ (a' := ?_) ?_ ?_
           rotate_left
           ·simp only [putAll, Act.put, List.setIfInBounds_toArray, List.set_cons_zero, List.set_cons_succ]
            rfl
           refine two_ (i := 4) (j := 16) (Ni := some 10) (Nj := some 22) (bo 22 847615) (bo 22 913135) rfl rfl rfl rfl (two_of HT_.out (by kernel_rfl)) (by decide) (by decide) (fun K hK => ?_) (fun K hK => ?_)
           ·skip
            have hcv20 := own_string (P := Try.prog) Try.underlying64 Try.underlying5 Try.underlying9 (Kd.own_of_R HO285.out)
            refine value_ (w1 := ?_) (v := ?_) (by rfl) rfl ?_ ?_
            rotate_left 2
            ·go_simp
             constructor
             ·rfl
             ·rfl
            clear hcv20
            refine hK.out _ _ ⟨cb 0 BK281, cb 1 BK281, cb 2 BK281, cb 3 BK281, cb 4 BK281⟩ (fun hHeld => ?_)
            clear hK K
            refine norm_ (a' := ?_) ?_ ?_
            rotate_left
            ·show Act.put _ (some 10) _ = _
             simp only [Act.put, List.setIfInBounds_toArray, List.set_cons_zero, List.set_cons_succ, i64_w, i32_w]
             rfl
            refine pV 8 14 (bo 22 847871) ?_
            refine pV 12 18 (bo 22 851967) ?_
            exact norm_ pk (hJ3_4_7_11 (v284) _ ⟨hHeld, (rpR HO285.out), bk, bl⟩)
           ·skip
            refine goes_ Try.func47 (by kernel_rfl) rfl #[.int .i64 (wrap64 (a0_3 + 1))] (by rfl) rfl rfl sa ?_
            with_reducible refine (impl_Var.calls k (wrap64 (a0_3 + 1)) t288 _ A8.out).mono ?_
            rintro e w20 ⟨rfl, hb⟩
            refine ⟨_, rfl, ?_⟩
            replace HO285 := Aside0.mk (Kd.R_below (rpR HO285.out) hb); replace BK281 := bv BK281 hb; replace HB := bs (w := w) hb; (try clear hb hb2 hk hi)
            refine hK.out _ _ ⟨cb 0 BK281, cb 1 BK281, cb 2 BK281, cb 3 BK281, cb 4 BK281⟩ (fun hHeld => ?_)
            clear hK K
            refine norm_ (a' := ?_) ?_ ?_
            rotate_left
            ·show Act.put _ (some 22) _ = _
             simp only [Act.put, List.setIfInBounds_toArray, List.set_cons_zero, List.set_cons_succ, i64_w, i32_w]
             rfl
            exact norm_ pk (hJ3_7_11_16 (v284) _ ⟨hHeld, (rpR HO285.out), bk, bl⟩)
         ·skip
          rintro v284 w19 ⟨hS_, h0_, h1_, h2_⟩
          have n0_ : Aside0 (Kd.R (Kd.int .u8) 5 w19 w.heap.size (fun _ => True) v284 y283) := ⟨h0_⟩
          have n1_ : Aside0 (w19.heap[gb281]? = some (.cells #[.int .i64 a0_0, .int .i64 a0_1, .int .i64 a0_2, .int .i64 a0_3, .string a0_4] 34 (0, 0))) := ⟨h1_⟩
          have n2_ : Aside0 (Below w.heap.size w w19) := ⟨h2_⟩
          clear BK281
          clear HB
          clear h0_ h1_ h2_
          have HO285 := n0_
          have BK281 := n1_
          have HB := n2_
          clear n0_ n1_ n2_
          have hHeld : w19.cell? ⟨gb281, 0, none⟩ = some (.int .i64 a0_0) ∧ w19.cell? ⟨gb281, 1, none⟩ = some (.int .i64 a0_1) ∧ w19.cell? ⟨gb281, 2, none⟩ = some (.int .i64 a0_2) ∧ w19.cell? ⟨gb281, 3, none⟩ = some (.int .i64 a0_3) ∧ w19.cell? ⟨gb281, 4, none⟩ = some (.string a0_4) := hS_
          refine norm_ (a' := ?_) ?_ ?_
          rotate_left
          ·simp only [putAll, Act.put, List.setIfInBounds_toArray, List.set_cons_zero, List.set_cons_succ]
           rfl
          refine one_ (i := 11) (N := some 17) (bo 22 847871) rfl rfl (one_of HT_.out (by kernel_rfl)) (by decide) (fun K hK => ?_)
          refine goes_ Try.func47 (by kernel_rfl) rfl #[.int .i64 a0_2] (by rfl) rfl rfl sa ?_
          with_reducible refine (impl_Var.calls k a0_2 t287 _ A6.out).mono ?_
          rintro e w20 ⟨rfl, hb⟩
          refine ⟨_, rfl, ?_⟩
          replace HO285 := Aside0.mk (Kd.R_below (rpR HO285.out) hb); replace BK281 := bv BK281 hb; replace HB := bs (w := w) hb; (try clear hb hb2 hk hi)
          refine hK.out _ _ ⟨cb 0 BK281, cb 1 BK281, cb 2 BK281, cb 3 BK281, cb 4 BK281⟩ (fun hHeld => ?_)
          clear hK K
          refine norm_ (a' := ?_) ?_ ?_
          rotate_left
          ·show Act.put _ (some 17) _ = _
           simp only [Act.put, List.setIfInBounds_toArray, List.set_cons_zero, List.set_cons_succ, i64_w, i32_w]
           rfl
          refine pV 12 18 (bo 22 851967) ?_
          exact norm_ pk (hJ3_4_7_11 (v284) _ ⟨hHeld, (rpR HO285.out), bk, bl⟩)
        ·skip
         rintro v284 w20 ⟨hS_, h0_, h1_, h2_⟩
         have n0_ : Aside0 (Kd.R (Kd.int .u8) 5 w20 w.heap.size (fun _ => True) v284 y283) := ⟨h0_⟩
         have n1_ : Aside0 (w20.heap[gb281]? = some (.cells #[.int .i64 a0_0, .int .i64 a0_1, .int .i64 a0_2, .int .i64 a0_3, .string a0_4] 34 (0, 0))) := ⟨h1_⟩
         have n2_ : Aside0 (Below w.heap.size w w20) := ⟨h2_⟩
         clear BK281
         clear HB
         clear h0_ h1_ h2_
         have HO285 := n0_
         have BK281 := n1_
         have HB := n2_
         clear n0_ n1_ n2_
         have hHeld : w20.cell? ⟨gb281, 0, none⟩ = some (.int .i64 a0_0) ∧ w20.cell? ⟨gb281, 1, none⟩ = some (.int .i64 a0_1) ∧ w20.cell? ⟨gb281, 2, none⟩ = some (.int .i64 a0_2) ∧ w20.cell? ⟨gb281, 3, none⟩ = some (.int .i64 a0_3) ∧ w20.cell? ⟨gb281, 4, none⟩ = some (.string a0_4) := hS_
         refine norm_ (a' := ?_) ?_ ?_
         rotate_left
         ·simp only [putAll, Act.put, List.setIfInBounds_toArray, List.set_cons_zero, List.set_cons_succ]
          rfl
         refine one_ (i := 4) (N := some 10) (bo 22 913151) rfl rfl (one_of HT_.out (by kernel_rfl)) (by decide) (fun K hK => ?_)
         have hcv21 := own_string (P := Try.prog) Try.underlying64 Try.underlying5 Try.underlying9 (Kd.own_of_R HO285.out)
         refine value_ (w1 := ?_) (v := ?_) (by rfl) rfl ?_ ?_
         rotate_left 2
         ·go_simp
          constructor
          ·rfl
          ·rfl
         clear hcv21
         refine hK.out _ _ ⟨cb 0 BK281, cb 1 BK281, cb 2 BK281, cb 3 BK281, cb 4 BK281⟩ (fun hHeld => ?_)
         clear hK K
         refine norm_ (a' := ?_) ?_ ?_
         rotate_left
         ·show Act.put _ (some 10) _ = _
          simp only [Act.put, List.setIfInBounds_toArray, List.set_cons_zero, List.set_cons_succ, i64_w, i32_w]
          rfl
         refine pV 8 14 (bo 22 913407) ?_
         refine pV 12 18 (bo 22 917503) ?_
         exact norm_ pk (hJ3_4_7_11_16 (v284) _ ⟨hHeld, (rpR HO285.out), bk, bl⟩)
       ·skip
        rintro v284 w20 ⟨hS_, h0_, h1_, h2_⟩
        have n0_ : Aside0 (Kd.R (Kd.int .u8) 5 w20 w.heap.size (fun _ => True) v284 y283) := ⟨h0_⟩
        have n1_ : Aside0 (w20.heap[gb281]? = some (.cells #[.int .i64 a0_0, .int .i64 a0_1, .int .i64 a0_2, .int .i64 a0_3, .string a0_4] 34 (0, 0))) := ⟨h1_⟩
        have n2_ : Aside0 (Below w.heap.size w w20) := ⟨h2_⟩
        clear BK281
        clear HB
        clear h0_ h1_ h2_
        have HO285 := n0_
        have BK281 := n1_
        have HB := n2_
        clear n0_ n1_ n2_
        have hHeld : w20.cell? ⟨gb281, 0, none⟩ = some (.int .i64 a0_0) ∧ w20.cell? ⟨gb281, 1, none⟩ = some (.int .i64 a0_1) ∧ w20.cell? ⟨gb281, 2, none⟩ = some (.int .i64 a0_2) ∧ w20.cell? ⟨gb281, 3, none⟩ = some (.int .i64 a0_3) ∧ w20.cell? ⟨gb281, 4, none⟩ = some (.string a0_4) := hS_
        refine norm_ (a' := ?_) ?_ ?_
        rotate_left
        ·simp only [putAll, Act.put, List.setIfInBounds_toArray, List.set_cons_zero, List.set_cons_succ]
         rfl
        refine one_ (i := 16) (N := some 22) (bo 22 917503) rfl rfl (one_of HT_.out (by kernel_rfl)) (by decide) (fun K hK => ?_)
        refine goes_ Try.func47 (by kernel_rfl) rfl #[.int .i64 (wrap64 (a0_3 + 1))] (by rfl) rfl rfl sa ?_
        with_reducible refine (impl_Var.calls k (wrap64 (a0_3 + 1)) t288 _ A8.out).mono ?_
        rintro e w21 ⟨rfl, hb⟩
        refine ⟨_, rfl, ?_⟩
        replace HO285 := Aside0.mk (Kd.R_below (rpR HO285.out) hb); replace BK281 := bv BK281 hb; replace HB := bs (w := w) hb; (try clear hb hb2 hk hi)
        refine hK.out _ _ ⟨cb 0 BK281, cb 1 BK281, cb 2 BK281, cb 3 BK281, cb 4 BK281⟩ (fun hHeld => ?_)
        clear hK K
        refine norm_ (a' := ?_) ?_ ?_
        rotate_left
        ·show Act.put _ (some 22) _ = _
         simp only [Act.put, List.setIfInBounds_toArray, List.set_cons_zero, List.set_cons_succ, i64_w, i32_w]
         rfl
        exact norm_ pk (hJ3_4_7_11_16 (v284) _ ⟨hHeld, (rpR HO285.out), bk, bl⟩)
      rintro v284 w21 ⟨hS_, h0_, h1_, h2_⟩
      have n0_ : Aside0 (Kd.R (Kd.int .u8) 5 w21 w.heap.size (fun _ => True) v284 y283) := ⟨h0_⟩
      have n1_ : Aside0 (w21.heap[gb281]? = some (.cells #[.int .i64 a0_0, .int .i64 a0_1, .int .i64 a0_2, .int .i64 a0_3, .string a0_4] 34 (0, 0))) := ⟨h1_⟩
      have n2_ : Aside0 (Below w.heap.size w w21) := ⟨h2_⟩
      clear BK281
      clear HB
      clear h0_ h1_ h2_
      have HO285 := n0_
      have BK281 := n1_
      have HB := n2_
      clear n0_ n1_ n2_
      have hHeld : w21.cell? ⟨gb281, 0, none⟩ = some (.int .i64 a0_0) ∧ w21.cell? ⟨gb281, 1, none⟩ = some (.int .i64 a0_1) ∧ w21.cell? ⟨gb281, 2, none⟩ = some (.int .i64 a0_2) ∧ w21.cell? ⟨gb281, 3, none⟩ = some (.int .i64 a0_3) ∧ w21.cell? ⟨gb281, 4, none⟩ = some (.string a0_4) := hS_
      refine norm_ (a' := ?_) ?_ ?_
      rotate_left
      ·simp only [putAll, Act.put, List.setIfInBounds_toArray, List.set_cons_zero, List.set_cons_succ]
       rfl
      refine pV 17 23 (bo 22 1048575) ?_
      refine pV 20 26 (bo 22 2097151) ?_
      refine pV 21 2 (bo 22 4194303) ?_
      refine done_ (done_of HT_.out (by kernel_rfl)) ?_
      try go_wp2
      go_ret
      exact ⟨fe, bl⟩
     ·rw [if_neg c10] at H
      exact absurd H (by simp)
    ·rw [if_neg c9] at H
     exact absurd H (by simp)
   ·rw [if_neg c7] at H
    exact absurd H (by simp)
  ·rw [if_neg c5] at H
   exact absurd H (by simp)
 ·replace c3 := Bool.eq_false_iff.mpr c3
  subst c3
  replace H := iF H
  obtain rfl := Option.some.inj H
  go_enter Try.func28, Try.ntmps28
  go_wp2_with (first | ((with_reducible refine gD 1 rfl ?_); refine boxZ 1 #[.int .i64 a0_0, .int .i64 a0_1, .int .i64 a0_2, .int .i64 a0_3, .string a0_4] 34 ?_; intro gb281 hg w22 hbox hb; have BK281 := Aside0.mk hbox; have GW281 := gw (w := w) hg; have GE281 := gw (w := w) hg; replace HB := bs (w := w) hb; clear hb hbox hg; obtain ⟨Z23_0, Z23_1, Z23_2, Z23_3, Z23_4, Y23_0, Y23_1, Y23_2, Y23_3, Y23_4⟩ := cf5 BK281) | ((with_reducible refine gC 31 rfl ?_); refine goesZ (some 4) rfl Try.func31 #[.agg #[.int .i64 a0_0, .int .i64 a0_1, .int .i64 a0_2, .int .i64 a0_3, .string a0_4]] ?_; (with_reducible refine (impl_RecOk.calls a0_0 a0_1 a0_2 a0_3 a0_4 false _ A2.out).mono ?_); rintro e w24 ⟨rfl, hb⟩; refine ⟨_, rfl, ?_⟩; replace BK281 := bv BK281 hb; replace HB := bs (w := w) hb; (try clear hb)))
  go_ret
  exact ⟨fe, bl⟩

end Go.Proofs.Ytflegbpgkkiijaa.PFnExactReplay
