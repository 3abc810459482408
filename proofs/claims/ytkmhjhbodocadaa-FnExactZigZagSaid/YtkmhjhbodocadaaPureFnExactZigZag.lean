/- FnExactZigZag: for every number the program's ZigZag returns what the reference's returns. -/
import Derived.Test.YtkmhjhbodocadaaPFnExactZigZagx1
import Derived.Test.YtkmhjhbodocadaaBase
namespace Go.Proofs.Ytkmhjhbodocadaa.Pure
open Go.RowKit Go.Proofs.Ytkmhjhbodocadaa.PFnExactZigZag Go.Proofs.YtkmhjhbodocadaaW.PrintWords Go.Proofs.YtkmhjhbodocadaaW.PrintLast Go.Proofs.YtkmhjhbodocadaaW.PrintMore Go.Proofs.Ytkmhjhbodocadaa.Base
set_option linter.unusedVariables false
set_option linter.unusedSimpArgs false

/-! ranges -/
theorem spec_l1In_run (a b c : Int) : spec_l1In.f a b c = some (decide (b ≤ a ∧ a ≤ c)) := by
  unfold spec_l1In.f
  by_cases h : a ≥ b
  · rw [if_pos h]; congr 1; simp [show b ≤ a from h]
  · rw [if_neg h]; congr 1; simp; omega
theorem impl_from_run (a b c : Int) : impl_from.f a b c = some (decide (b ≤ a ∧ a ≤ c)) := by
  unfold impl_from.f
  by_cases h : a ≥ b
  · rw [if_pos h]; congr 1; simp [show b ≤ a from h]
  · rw [if_neg h]; congr 1; simp; omega

/-! zigzag -/
def zigM (n : Int) : Int := if -140737488355328 ≤ n ∧ n ≤ 140737488355328 then (if n < 0 then -2 * n - 1 else 2 * n) else -1
theorem spec_ZigZag_run (n : Int) : spec_ZigZag.f n = some (zigM n) := by
  unfold spec_ZigZag.f
  rw [spec_l1In_run]; simp only [Option.bind_some, zigM, decide_eq_true_eq]
  by_cases h : -140737488355328 ≤ n ∧ n ≤ 140737488355328
  · rw [if_pos h, if_pos h]
    by_cases h0 : n < 0
    · rw [if_pos h0, if_pos h0, w64 (n := (-2) * n) (by omega) (by omega), w64 (by omega) (by omega)]
    · rw [if_neg h0, if_neg h0, w64 (by omega) (by omega)]
  · rw [if_neg h, if_neg h]

theorem impl_ZigZag_run (n : Int) : impl_ZigZag.f n = some (zigM n) := by
  unfold impl_ZigZag.f
  rw [impl_from_run, impl_from_run]; simp only [Option.bind_some, zigM, decide_eq_true_eq]
  by_cases h : 0 ≤ n ∧ n ≤ 140737488355328
  · rw [if_pos h, if_pos (by omega), if_neg (by omega), w64 (by omega) (by omega)]
  · rw [if_neg h]
    by_cases h2 : -140737488355328 ≤ n ∧ n ≤ -1
    · rw [if_pos h2, if_pos (by omega), if_pos (by omega), w64 (n := (-2) * n) (by omega) (by omega), w64 (by omega) (by omega)]
    · rw [if_neg h2, if_neg (by omega)]

theorem FnExactZigZag : laws_FnExactZigZag.Pure := by
  intro n hn
  unfold laws_FnExactZigZag.f
  rw [spec_ZigZag_run, impl_ZigZag_run]; simp

end Go.Proofs.Ytkmhjhbodocadaa.Pure
