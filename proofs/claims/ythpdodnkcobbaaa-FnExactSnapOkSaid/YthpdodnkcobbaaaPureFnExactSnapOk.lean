/- FnExactSnapOk: for every snapshot the program's SnapOk returns what the reference's returns. -/
import Derived.Test.YthpdodnkcobbaaaPFnExactSnapOkx2
import Derived.Test.YthpdodnkcobbaaaBase
import Derived.Test.YthpdodnkcobbaaaNum
import Derived.Test.YthpdodnkcobbaaaNumRec
namespace Go.Proofs.Ythpdodnkcobbaaa.Pure
open Go.RowKit Go.Proofs.Ythpdodnkcobbaaa.PFnExactSnapOk Go.Proofs.YthpdodnkcobbaaaW.PrintWords Go.Proofs.YthpdodnkcobbaaaW.PrintLast Go.Proofs.YthpdodnkcobbaaaW.PrintMore Go.Proofs.Ythpdodnkcobbaaa.Base
set_option linter.unusedVariables false
set_option linter.unusedSimpArgs false

/-! ranges -/
theorem spec_l1In_run (a b c : Int) : spec_l1In.f a b c = some (decide (b ≤ a ∧ a ≤ c)) := by
  unfold spec_l1In.f
  by_cases h : a ≥ b
  · rw [if_pos h]; congr 1; simp [show b ≤ a from h]
  · rw [if_neg h]; congr 1; simp; omega

theorem impl_from_run (a b c : Int) : impl_from.f a b c = some (decide (b ≤ a ∧ a ≤ c)) := by
  unfold impl_from.f
  by_cases h : a ≥ b
  · rw [if_pos h]; congr 1; simp [show b ≤ a from h]
  · rw [if_neg h]; congr 1; simp; omega

/-! SnapOk -/
theorem spec_SnapOk_run (i t : Int) (d : ByteArray) : spec_SnapOk.f i t d = some (snapOkM i t d.size) := by
  unfold spec_SnapOk.f snapOkM
  simp only [spec_l1In_run, Option.bind_some, decide_eq_true_eq, toList_nil]
  repeat' split
  all_goals (congr 1; rw [Bool.eq_iff_iff]; simp only [decide_eq_true_eq, Bool.and_eq_true, beq_iff_eq, true_iff, Bool.false_eq_true, false_iff, iff_true, iff_false]; omega)

theorem impl_isTerm_run (a : Int) : impl_isTerm.f a = some (decide (1 ≤ a ∧ a ≤ 100000)) := by
  unfold impl_isTerm.f; rw [impl_from_run]; rfl
theorem impl_SnapOk_run (i t : Int) (d : ByteArray) : impl_SnapOk.f i t d = some (snapOkM i t d.size) := by
  unfold impl_SnapOk.f snapOkM
  simp only [impl_from_run, impl_isTerm_run, Option.bind_some, decide_eq_true_eq, toList_nil]
  by_cases h : i = 0 ∧ t = 0 ∧ d.size = 0
  · obtain ⟨rfl, rfl, h⟩ := h
    rw [h]; rfl
  · rw [if_neg (by simpa using h)]
    repeat' split
    all_goals (congr 1; rw [Bool.eq_iff_iff]; simp only [decide_eq_true_eq, Bool.and_eq_true, beq_iff_eq, true_iff, Bool.false_eq_true, false_iff, iff_true, iff_false]; omega)

theorem FnExactSnapOk (a0_0 : Int) (a0_1 : Int) (a0_2 : ByteArray) (w0_0 : (Lit.int .i64 a0_0).wf = true) (w0_1 : (Lit.int .i64 a0_1).wf = true) (w0_2 : a0_2.size ≤ maxLen) : laws_FnExactSnapOk.f a0_0 a0_1 a0_2 = some true := by
  unfold laws_FnExactSnapOk.f laws_szSnap.f
  split
  · rfl
  · simp only [Option.bind_some]
    split
    · rfl
    · simp only [laws_toSnap.f, Option.bind_some, spec_SnapOk_run, impl_SnapOk_run]; simp

end Go.Proofs.Ythpdodnkcobbaaa.Pure
