/- The new disk is that of the reference. -/
import Derived.Test.YtjcmcamijaelbaaPFnExactNewDiskx1
import Derived.Test.YtjcmcamijaelbaaPFnExactNewDiskx2
import Derived.Test.YtjcmcamijaelbaaPFnExactNewDiskx3
import Derived.Test.YtjcmcamijaelbaaPFnExactNewDiskx4
import Derived.Test.YtjcmcamijaelbaaPFnExactNewDiskx5
import Derived.Test.YtjcmcamijaelbaaPFnExactNewDiskx6
import Derived.Test.YtjcmcamijaelbaaBase
namespace Go.Proofs.Ytjcmcamijaelbaa.Pure
open Go.RowKit Go.Proofs.Ytjcmcamijaelbaa.PFnExactNewDisk Go.Proofs.YtjcmcamijaelbaaW.PrintWords Go.Proofs.YtjcmcamijaelbaaW.PrintLast Go.Proofs.YtjcmcamijaelbaaW.PrintMore Go.Proofs.Ytjcmcamijaelbaa.Base
set_option linter.unusedVariables false
set_option linter.unusedSimpArgs false

/-! ranges -/
theorem spec_l1In_run (a b c : Int) : spec_l1In.f a b c = some (decide (b ≤ a ∧ a ≤ c)) := by
  unfold spec_l1In.f
  by_cases h : a ≥ b
  · rw [if_pos h]; congr 1; simp [show b ≤ a from h]
  · rw [if_neg h]; congr 1; simp; omega

theorem impl_from_run (a b c : Int) : impl_from.f a b c = some (decide (b ≤ a ∧ a ≤ c)) := by
  unfold impl_from.f
  by_cases h : a ≥ b
  · rw [if_pos h]; congr 1; simp [show b ≤ a from h]
  · rw [if_neg h]; congr 1; simp; omega

theorem eqDisk0 (a b : Int) (k : Nat) : laws_eqDisk.f (k + 1) a b [] [] [] a b [] [] [] = some true := by
  simp [laws_eqDisk.f, laws_eqInodeS.f, laws_eqInodeS.l0, laws_eqLinkS.f, laws_eqLinkS.l0, laws_eqMoveS.f, laws_eqMoveS.l0]
theorem markDisk0 (a b : Int) (k : Nat) : laws_markDisk.f (k + 1) a b [] [] [] 1 = some (1, [], [], []) := by
  simp [laws_markDisk.f, laws_markInodeS.f, laws_markInodeS.l0, laws_markLinkS.f, laws_markLinkS.l0, laws_markMoveS.f, laws_markMoveS.l0]
theorem heldDisk0 (a b : Int) (k : Nat) : laws_heldDisk.f (k + 1) a b [] [] [] 1 = some 1 := by
  simp [laws_heldDisk.f, laws_heldInodeS.f, laws_heldInodeS.l0, laws_heldLinkS.f, laws_heldLinkS.l0, laws_heldMoveS.f, laws_heldMoveS.l0]
theorem FnExactNewDisk (a0 : Int) (w0 : (Lit.int .i64 a0).wf = true) : ∃ k, laws_FnExactNewDisk.f k a0 = some true := by
  refine ⟨4, ?_⟩
  have s : ∃ a b o, spec_NewDisk.f a0 = some (a, b, [], [], [], o) ∧ impl_NewDisk.f a0 = some (a, b, [], [], [], o) := by
    unfold spec_NewDisk.f impl_NewDisk.f
    rw [spec_l1In_run, impl_from_run]
    simp only [Option.bind_some]
    split
    · exact ⟨_, _, _, rfl, rfl⟩
    · exact ⟨_, _, _, rfl, rfl⟩
  obtain ⟨a, b, o, e, f⟩ := s
  unfold laws_FnExactNewDisk.f
  rw [e]; simp only [Option.bind_some]
  rw [f]; simp only [Option.bind_some]
  rw [eqDisk0]; simp only [Option.bind_some]
  rw [if_pos trivial, bne_self_eq_false]
  simp only [laws_FnExactNewDisk.j0]
  rw [if_neg (by decide), markDisk0]; simp only [Option.bind_some]
  rw [heldDisk0]; simp only [Option.bind_some]
  rw [if_neg (by decide), if_pos trivial, f]; simp only [Option.bind_some]
  rw [eqDisk0]; simp only [Option.bind_some]
  rw [if_pos trivial, bne_self_eq_false]
  simp only [laws_FnExactNewDisk.j1]
  rw [if_neg (by decide), heldDisk0]; simp only [Option.bind_some]
  rw [if_neg (by decide), if_pos trivial]

end Go.Proofs.Ytjcmcamijaelbaa.Pure
