/- FnExactRecOk: for every record the program's RecOk returns what the reference's returns. -/
import Derived.Test.YthpdodnkcobbaaaPFnExactRecOkx1
import Derived.Test.YthpdodnkcobbaaaBase
import Derived.Test.YthpdodnkcobbaaaNum
import Derived.Test.YthpdodnkcobbaaaNumRec
namespace Go.Proofs.Ythpdodnkcobbaaa.Pure
open Go.RowKit Go.Proofs.Ythpdodnkcobbaaa.PFnExactRecOk Go.Proofs.YthpdodnkcobbaaaW.PrintWords Go.Proofs.YthpdodnkcobbaaaW.PrintLast Go.Proofs.YthpdodnkcobbaaaW.PrintMore Go.Proofs.Ythpdodnkcobbaaa.Base
set_option linter.unusedVariables false
set_option linter.unusedSimpArgs false

/-! ranges -/
theorem spec_l1In_run (a b c : Int) : spec_l1In.f a b c = some (decide (b ≤ a ∧ a ≤ c)) := by
  unfold spec_l1In.f
  by_cases h : a ≥ b
  · rw [if_pos h]; congr 1; simp [show b ≤ a from h]
  · rw [if_neg h]; congr 1; simp; omega

theorem impl_from_run (a b c : Int) : impl_from.f a b c = some (decide (b ≤ a ∧ a ≤ c)) := by
  unfold impl_from.f
  by_cases h : a ≥ b
  · rw [if_pos h]; congr 1; simp [show b ≤ a from h]
  · rw [if_neg h]; congr 1; simp; omega

/-! RecOk -/
theorem spec_l5Based_run (i t : Int) : spec_l5Based.f i t = some (placeM i t) := by
  unfold spec_l5Based.f placeM
  simp only [spec_l1In_run, Option.bind_some, decide_eq_true_eq]
  repeat' split
  all_goals (congr 1; rw [Bool.eq_iff_iff]; simp only [decide_eq_true_eq, Bool.and_eq_true, beq_iff_eq, true_iff, Bool.false_eq_true, false_iff, iff_true, iff_false]; omega)
theorem spec_RecOk_run (k t i v : Int) (d : ByteArray) : spec_RecOk.f k t i v d = some (recOkM k t i v d.size) := by
  unfold spec_RecOk.f recOkM
  simp only [spec_l1In_run, spec_l5Based_run, Option.bind_some, decide_eq_true_eq, toList_nil]
  repeat' split
  all_goals (first | rfl | (exfalso; omega) | (congr 1; (try simp only [placeM, decide_eq_true_eq] at *); rw [Bool.eq_iff_iff]; (try simp only [decide_eq_true_eq, Bool.and_eq_true, beq_iff_eq, true_iff, Bool.false_eq_true, false_iff, iff_true, iff_false]); omega))

theorem impl_isTerm_run (a : Int) : impl_isTerm.f a = some (decide (1 ≤ a ∧ a ≤ 100000)) := by
  unfold impl_isTerm.f; rw [impl_from_run]; rfl
theorem impl_isVote_run (a : Int) : impl_isVote.f a = some (decide (-1 ≤ a ∧ a ≤ 4)) := by
  unfold impl_isVote.f; rw [impl_from_run]; rfl
theorem impl_isPlace_run (i t : Int) : impl_isPlace.f i t = some (placeM i t) := by
  unfold impl_isPlace.f placeM
  simp only [impl_from_run, impl_isTerm_run, Option.bind_some, decide_eq_true_eq]
  repeat' split
  all_goals (congr 1; rw [Bool.eq_iff_iff]; simp only [decide_eq_true_eq, Bool.and_eq_true, beq_iff_eq, true_iff, Bool.false_eq_true, false_iff, iff_true, iff_false]; omega)
theorem impl_RecOk_run (k t i v : Int) (d : ByteArray) : impl_RecOk.f k t i v d = some (recOkM k t i v d.size) := by
  unfold impl_RecOk.f recOkM
  simp only [impl_from_run, impl_isTerm_run, impl_isVote_run, impl_isPlace_run, Option.bind_some, decide_eq_true_eq, toList_nil]
  repeat' split
  all_goals (first | rfl | (exfalso; omega) | (congr 1; (try simp only [placeM, decide_eq_true_eq] at *); rw [Bool.eq_iff_iff]; (try simp only [decide_eq_true_eq, Bool.and_eq_true, beq_iff_eq, true_iff, Bool.false_eq_true, false_iff, iff_true, iff_false]); omega))

theorem FnExactRecOk (a0_0 : Int) (a0_1 : Int) (a0_2 : Int) (a0_3 : Int) (a0_4 : ByteArray) (w0_0 : (Lit.int .i64 a0_0).wf = true) (w0_1 : (Lit.int .i64 a0_1).wf = true) (w0_2 : (Lit.int .i64 a0_2).wf = true) (w0_3 : (Lit.int .i64 a0_3).wf = true) (w0_4 : a0_4.size ≤ maxLen) : laws_FnExactRecOk.f a0_0 a0_1 a0_2 a0_3 a0_4 = some true := by
  unfold laws_FnExactRecOk.f laws_szRec.f
  split
  · rfl
  · simp only [Option.bind_some]
    split
    · rfl
    · simp only [laws_toRec.f, Option.bind_some, spec_RecOk_run, impl_RecOk_run]; simp

end Go.Proofs.Ythpdodnkcobbaaa.Pure
