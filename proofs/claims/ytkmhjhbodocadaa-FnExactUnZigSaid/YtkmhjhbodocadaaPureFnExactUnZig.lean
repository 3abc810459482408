/- FnExactUnZig: for every number the program's UnZig returns what the reference's returns. -/
import Derived.Test.YtkmhjhbodocadaaPFnExactUnZigx1
import Derived.Test.YtkmhjhbodocadaaBase
namespace Go.Proofs.Ytkmhjhbodocadaa.Pure
open Go.RowKit Go.Proofs.Ytkmhjhbodocadaa.PFnExactUnZig Go.Proofs.YtkmhjhbodocadaaW.PrintWords Go.Proofs.YtkmhjhbodocadaaW.PrintLast Go.Proofs.YtkmhjhbodocadaaW.PrintMore Go.Proofs.Ytkmhjhbodocadaa.Base
set_option linter.unusedVariables false
set_option linter.unusedSimpArgs false

/-! ranges -/
theorem spec_l1In_run (a b c : Int) : spec_l1In.f a b c = some (decide (b ≤ a ∧ a ≤ c)) := by
  unfold spec_l1In.f
  by_cases h : a ≥ b
  · rw [if_pos h]; congr 1; simp [show b ≤ a from h]
  · rw [if_neg h]; congr 1; simp; omega
theorem impl_from_run (a b c : Int) : impl_from.f a b c = some (decide (b ≤ a ∧ a ≤ c)) := by
  unfold impl_from.f
  by_cases h : a ≥ b
  · rw [if_pos h]; congr 1; simp [show b ≤ a from h]
  · rw [if_neg h]; congr 1; simp; omega

/-! zigzag -/
def zigM (n : Int) : Int := if -140737488355328 ≤ n ∧ n ≤ 140737488355328 then (if n < 0 then -2 * n - 1 else 2 * n) else -1
theorem spec_ZigZag_run (n : Int) : spec_ZigZag.f n = some (zigM n) := by
  unfold spec_ZigZag.f
  rw [spec_l1In_run]; simp only [Option.bind_some, zigM, decide_eq_true_eq]
  by_cases h : -140737488355328 ≤ n ∧ n ≤ 140737488355328
  · rw [if_pos h, if_pos h]
    by_cases h0 : n < 0
    · rw [if_pos h0, if_pos h0, w64 (n := (-2) * n) (by omega) (by omega), w64 (by omega) (by omega)]
    · rw [if_neg h0, if_neg h0, w64 (by omega) (by omega)]
  · rw [if_neg h, if_neg h]

/-! and back -/
def unzM (z : Int) : Int × Bool := if 0 ≤ z ∧ z ≤ 281474976710656 then (if z % 2 = 1 then (-(z / 2) - 1, true) else (z / 2, true)) else (0, false)
theorem spec_UnZig_run (z : Int) (k : Nat) (hk : 0 < k) : spec_UnZig.f k z = some (unzM z) := by
  obtain ⟨k, rfl⟩ : ∃ m, k = m + 1 := ⟨k - 1, by omega⟩
  unfold spec_UnZig.f
  simp only [spec_UnZig.j0, unzM, spec_ZigZag_run, Option.bind_some, decide_eq_true_eq]
  by_cases h : z < 0
  · rw [if_pos h, if_pos trivial, if_neg (by omega)]
  · rw [if_neg h]
    by_cases h2 : z > 281474976710656
    · rw [if_pos h2, if_neg (by omega)]
    · rw [if_neg h2, if_pos (show 0 ≤ z ∧ z ≤ 281474976710656 by omega), tmod_nn (a := z) (by omega), tdiv_nn (a := z) (by omega)]
      by_cases h3 : z % 2 = 1
      · rw [if_pos h3, if_pos h3, w64 (n := z / 2) (by omega) (by omega), w64 (n := -(z / 2)) (by omega) (by omega), w64 (by omega) (by omega)]
        have : zigM (-(z / 2) - 1) = z := by unfold zigM; rw [if_pos (by omega), if_pos (by omega)]; omega
        rw [this]; simp
      · rw [if_neg h3, if_neg h3, w64 (by omega) (by omega)]
        have : zigM (z / 2) = z := by unfold zigM; rw [if_pos (by omega), if_neg (by omega)]; omega
        rw [this]; simp

theorem impl_UnZig_run (z : Int) : impl_UnZig.f z = some (unzM z) := by
  unfold impl_UnZig.f
  rw [impl_from_run]; simp only [Option.bind_some, unzM, decide_eq_true_eq]
  by_cases h : 0 ≤ z ∧ z ≤ 281474976710656
  · rw [if_pos h, if_pos h, tmod_nn (by omega)]
    by_cases h3 : z % 2 = 1
    · rw [if_pos h3, if_pos h3, w64 (n := z + 1) (by omega) (by omega), w64 (n := -(z + 1)) (by omega) (by omega)]
      have : Int.tdiv (-(z + 1)) 2 = -(z / 2) - 1 := by rw [Int.neg_tdiv, tdiv_nn (by omega)]; omega
      rw [this, w64 (by omega) (by omega)]
    · rw [if_neg h3, if_neg h3, tdiv_nn (by omega), w64 (by omega) (by omega)]
  · rw [if_neg h, if_neg h]

theorem FnExactUnZig : laws_FnExactUnZig.Pure := by
  intro n hn
  refine ⟨1, ?_⟩
  unfold laws_FnExactUnZig.f
  rw [spec_UnZig_run _ _ (by omega), impl_UnZig_run]; simp

end Go.Proofs.Ytkmhjhbodocadaa.Pure
