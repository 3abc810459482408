/- FnExactVar: for every number the program's Var returns what the reference's returns. -/
import Derived.Test.YtkmhjhbodocadaaPFnExactVarx1
import Derived.Test.YtkmhjhbodocadaaBase
import Derived.Test.YtkmhjhbodocadaaNum
namespace Go.Proofs.Ytkmhjhbodocadaa.Pure
open Go.RowKit Go.Proofs.Ytkmhjhbodocadaa.PFnExactVar Go.Proofs.YtkmhjhbodocadaaW.PrintWords Go.Proofs.YtkmhjhbodocadaaW.PrintLast Go.Proofs.YtkmhjhbodocadaaW.PrintMore Go.Proofs.Ytkmhjhbodocadaa.Base
set_option linter.unusedVariables false
set_option linter.unusedSimpArgs false

/-! ranges -/
theorem spec_l1In_run (a b c : Int) : spec_l1In.f a b c = some (decide (b ≤ a ∧ a ≤ c)) := by
  unfold spec_l1In.f
  by_cases h : a ≥ b
  · rw [if_pos h]; congr 1; simp [show b ≤ a from h]
  · rw [if_neg h]; congr 1; simp; omega
theorem impl_from_run (a b c : Int) : impl_from.f a b c = some (decide (b ≤ a ∧ a ≤ c)) := by
  unfold impl_from.f
  by_cases h : a ≥ b
  · rw [if_pos h]; congr 1; simp [show b ≤ a from h]
  · rw [if_neg h]; congr 1; simp; omega

/-! Var -/
def varM (n : Int) : List Int := if 0 ≤ n ∧ n ≤ 562949953421311 then varN n.toNat else []
theorem varM_byt (n : Int) : Byt (varM n) := by
  unfold varM; split
  · exact varN_byt _
  · exact byt_nil

theorem spec_Var_run : ∀ (d k n : Nat) (xs : List Int), n < 128 ^ (d + 1) → d ≤ 7 → xs.length + d < 100 → d < k →
    spec_Var.l0 k (n : Int) xs = some (strOfNums (xs ++ varN n)) := by
  intro d
  induction d with
  | zero =>
    intro k n xs h0 h7 h1 hk
    obtain ⟨k, rfl⟩ : ∃ m, k = m + 1 := ⟨k - 1, by omega⟩
    simp only [spec_Var.l0]
    rw [if_neg (by omega), if_pos (by omega), varN_lt (by omega), show (n : Int) % 256 = n by omega]
  | succ d ih =>
    intro k n xs h0 h7 h1 hk
    obtain ⟨k, rfl⟩ : ∃ m, k = m + 1 := ⟨k - 1, by omega⟩
    simp only [spec_Var.l0]
    have hb : n < 128 ^ 9 := Nat.lt_of_lt_of_le h0 (Nat.pow_le_pow_right (by omega) (by omega))
    by_cases h : n < 128
    · rw [if_neg (by omega), if_pos (by omega), varN_lt h, show (n : Int) % 256 = n by omega]
    · rw [if_pos (by omega), if_pos (by omega), varN_ge h, tdiv_nn (by omega), tmod_nn (by omega), w64 (n := (n : Int) / 128) (by omega) (by omega), w64 (n := 128 + (n : Int) % 128) (by omega) (by omega)]
      have e : (n : Int) / 128 = ((n / 128 : Nat) : Int) := by omega
      rw [e, ih k (n / 128) _ (by rw [pow128] at h0; omega) (by omega) (by simp; omega) (by omega)]
      have e2 : (128 + (n : Int) % 128) % 256 = ((n % 128 + 128 : Nat) : Int) := by omega
      rw [e2]; simp

theorem spec_Var_f (n : Int) (k : Nat) (hk : 8 < k) : spec_Var.f k n = some (strOfNums (varM n)) := by
  unfold spec_Var.f varM
  rw [spec_l1In_run]; simp only [Option.bind_some, decide_eq_true_eq]
  by_cases h : 0 ≤ n ∧ n ≤ 562949953421311
  · rw [if_pos h, if_pos h]
    have := spec_Var_run 6 k n.toNat [] (by omega) (by omega) (by simp) (by omega)
    rw [show ((n.toNat : Nat) : Int) = n by omega] at this
    rw [this]; rfl
  · rw [if_neg h, if_neg h]; rfl

theorem impl_Var_run : ∀ (d k n : Nat) (xs : List Int), n < 128 ^ (d + 1) → d ≤ 7 → xs.length + d < 100 → d < k →
    impl_Var.l0 k (n : Int) xs = some (strOfNums (xs ++ varN n)) := by
  intro d
  induction d with
  | zero =>
    intro k n xs h0 h7 h1 hk
    obtain ⟨k, rfl⟩ : ∃ m, k = m + 1 := ⟨k - 1, by omega⟩
    simp only [impl_Var.l0]
    rw [if_neg (by omega), if_pos (by omega), varN_lt (by omega), show (n : Int) % 256 = n by omega]
  | succ d ih =>
    intro k n xs h0 h7 h1 hk
    obtain ⟨k, rfl⟩ : ∃ m, k = m + 1 := ⟨k - 1, by omega⟩
    simp only [impl_Var.l0]
    have hb : n < 128 ^ 9 := Nat.lt_of_lt_of_le h0 (Nat.pow_le_pow_right (by omega) (by omega))
    by_cases h : n < 128
    · rw [if_neg (by omega), if_pos (by omega), varN_lt h, show (n : Int) % 256 = n by omega]
    · rw [if_pos (by omega), if_pos (by omega), varN_ge h, tdiv_nn (by omega), tmod_nn (by omega), w64 (n := (n : Int) / 128) (by omega) (by omega), w64 (n := (n : Int) % 128 + 128) (by omega) (by omega)]
      have e : (n : Int) / 128 = ((n / 128 : Nat) : Int) := by omega
      rw [e, ih k (n / 128) _ (by rw [pow128] at h0; omega) (by omega) (by simp; omega) (by omega)]
      have e2 : ((n : Int) % 128 + 128) % 256 = ((n % 128 + 128 : Nat) : Int) := by omega
      rw [e2]; simp

theorem impl_Var_f (n : Int) (k : Nat) (hk : 8 < k) : impl_Var.f k n = some (strOfNums (varM n)) := by
  unfold impl_Var.f varM
  rw [impl_from_run]; simp only [Option.bind_some, decide_eq_true_eq]
  by_cases h : 0 ≤ n ∧ n ≤ 562949953421311
  · rw [if_pos h, if_pos h]
    have := impl_Var_run 6 k n.toNat [] (by omega) (by omega) (by simp) (by omega)
    rw [show ((n.toNat : Nat) : Int) = n by omega] at this
    rw [this]; rfl
  · rw [if_neg h, if_neg h]; rfl

theorem FnExactVar : laws_FnExactVar.Pure := by
  intro n hn
  refine ⟨9, ?_⟩
  unfold laws_FnExactVar.f
  rw [spec_Var_f n 9 (by omega), impl_Var_f n 9 (by omega)]; simp

end Go.Proofs.Ytkmhjhbodocadaa.Pure
