/- FnExactReadFixed: for every text and width the program's ReadFixed returns what the reference's returns. -/
import Derived.Test.YtkmhjhbodocadaaPFnExactReadFixedx1
import Derived.Test.YtkmhjhbodocadaaBase
import Derived.Test.YtkmhjhbodocadaaNum
namespace Go.Proofs.Ytkmhjhbodocadaa.Pure
open Go.RowKit Go.Proofs.Ytkmhjhbodocadaa.PFnExactReadFixed Go.Proofs.YtkmhjhbodocadaaW.PrintWords Go.Proofs.YtkmhjhbodocadaaW.PrintLast Go.Proofs.YtkmhjhbodocadaaW.PrintMore Go.Proofs.Ytkmhjhbodocadaa.Base
set_option linter.unusedVariables false
set_option linter.unusedSimpArgs false

/-! ranges -/
theorem spec_l1In_run (a b c : Int) : spec_l1In.f a b c = some (decide (b ≤ a ∧ a ≤ c)) := by
  unfold spec_l1In.f
  by_cases h : a ≥ b
  · rw [if_pos h]; congr 1; simp [show b ≤ a from h]
  · rw [if_neg h]; congr 1; simp; omega
theorem impl_from_run (a b c : Int) : impl_from.f a b c = some (decide (b ≤ a ∧ a ≤ c)) := by
  unfold impl_from.f
  by_cases h : a ≥ b
  · rw [if_pos h]; congr 1; simp [show b ≤ a from h]
  · rw [if_neg h]; congr 1; simp; omega

/-! ReadFixed -/
def rdFixM (s : ByteArray) (w : Int) : Int × Bool := if 1 ≤ w ∧ w ≤ 7 ∧ w ≤ (s.size : Int) then (be ((bytesOf s).take w.toNat), true) else (0, false)

theorem be_step {s : ByteArray} {i : Int} (h0 : 0 ≤ i) (h1 : i < (s.size : Int)) (h7 : i < 7) :
    be ((bytesOf s).take (i.toNat + 1)) = be ((bytesOf s).take i.toNat) * 256 + bt s i ∧ 0 ≤ be ((bytesOf s).take i.toNat) ∧ be ((bytesOf s).take i.toNat) < 281474976710656 := by
  refine ⟨by rw [bt_take h0 h1, be_snoc], ?_⟩
  obtain ⟨a, b⟩ := be_bound ((bytesOf s).take i.toNat) (byt_take (byt_bytesOf s) _)
  refine ⟨a, Int.lt_of_lt_of_le b ?_⟩
  have : ((bytesOf s).take i.toNat).length ≤ 6 := by rw [List.length_take]; omega
  exact Int.le_trans (pow256_le this) (show (256 : Int) ^ 6 ≤ 281474976710656 by decide)

theorem spec_ReadFixed_run (s : ByteArray) (w : Int) (hw : w ≤ 7) (hs : w ≤ (s.size : Int)) : ∀ (d k : Nat) (i : Int), 0 ≤ i → i + d = w → d < k →
    spec_ReadFixed.l0 k s w (be ((bytesOf s).take i.toNat)) i = some (be ((bytesOf s).take w.toNat), true) := by
  intro d
  induction d with
  | zero =>
    intro k i h0 h1 hk
    obtain ⟨k, rfl⟩ : ∃ m, k = m + 1 := ⟨k - 1, by omega⟩
    simp only [spec_ReadFixed.l0]
    rw [if_neg (by omega), show i = w by omega]
  | succ d ih =>
    intro k i h0 h1 hk
    obtain ⟨k, rfl⟩ : ∃ m, k = m + 1 := ⟨k - 1, by omega⟩
    obtain ⟨e, b0, b1⟩ := be_step (s := s) h0 (by omega) (by omega)
    obtain ⟨c0, c1⟩ := bt_range s i
    simp only [spec_ReadFixed.l0]
    rw [if_pos (by omega), if_pos h0, if_pos (by omega), w64 (n := bt s i) (by omega) (by omega), w64 (n := _ * 256) (by omega) (by omega), w64 (n := _ + bt s i) (by omega) (by omega), w64 (n := i + 1) (by omega) (by omega), ← e]
    have := ih k (i + 1) (by omega) (by omega) (by omega)
    rwa [show (i + 1).toNat = i.toNat + 1 by omega] at this

theorem spec_ReadFixed_f (s : ByteArray) (w : Int) (k : Nat) (hk : 8 < k) : spec_ReadFixed.f k s w = some (rdFixM s w) := by
  unfold spec_ReadFixed.f rdFixM
  rw [spec_l1In_run]; simp only [Option.bind_some, decide_eq_true_eq]
  obtain ⟨k, rfl⟩ : ∃ m, k = m + 1 := ⟨k - 1, by omega⟩
  by_cases h : 1 ≤ w ∧ w ≤ 7
  · rw [if_pos h]
    simp only [spec_ReadFixed.j0, decide_eq_true_eq]
    by_cases h2 : (s.size : Int) < w
    · rw [if_pos h2, if_neg (by omega)]
    · rw [if_neg h2, if_pos (by omega)]
      have := spec_ReadFixed_run s w h.2 (by omega) w.toNat k 0 (by omega) (by omega) (by omega)
      exact this
  · rw [if_neg h, if_neg (by omega)]
    simp only [spec_ReadFixed.j0]; rfl

theorem impl_ReadFixed_run (s : ByteArray) (w : Int) (hw : w ≤ 7) (hs : w ≤ (s.size : Int)) : ∀ (d k : Nat) (i : Int), 0 ≤ i → i + d = w → d < k →
    impl_ReadFixed.l0 k s (be ((bytesOf s).take i.toNat)) w i = some (be ((bytesOf s).take w.toNat), true) := by
  intro d
  induction d with
  | zero =>
    intro k i h0 h1 hk
    obtain ⟨k, rfl⟩ : ∃ m, k = m + 1 := ⟨k - 1, by omega⟩
    simp only [impl_ReadFixed.l0]
    rw [if_neg (by omega), show i = w by omega]
  | succ d ih =>
    intro k i h0 h1 hk
    obtain ⟨k, rfl⟩ : ∃ m, k = m + 1 := ⟨k - 1, by omega⟩
    obtain ⟨e, b0, b1⟩ := be_step (s := s) h0 (by omega) (by omega)
    obtain ⟨c0, c1⟩ := bt_range s i
    simp only [impl_ReadFixed.l0]
    rw [if_pos (by omega), if_pos h0, if_pos (by omega), w64 (n := bt s i) (by omega) (by omega), w64 (n := _ * 256) (by omega) (by omega), or_low b0 (by omega) (by omega) (by omega), w64 (n := i + 1) (by omega) (by omega), ← e]
    have := ih k (i + 1) (by omega) (by omega) (by omega)
    rwa [show (i + 1).toNat = i.toNat + 1 by omega] at this

theorem impl_ReadFixed_f (s : ByteArray) (w : Int) (k : Nat) (hk : 8 < k) : impl_ReadFixed.f k s w = some (rdFixM s w) := by
  unfold impl_ReadFixed.f rdFixM
  rw [impl_from_run]; simp only [Option.bind_some, decide_eq_true_eq]
  obtain ⟨k, rfl⟩ : ∃ m, k = m + 1 := ⟨k - 1, by omega⟩
  by_cases h : 1 ≤ w ∧ w ≤ 7
  · rw [if_pos h]
    simp only [impl_ReadFixed.j0, decide_eq_true_eq]
    by_cases h2 : (s.size : Int) < w
    · rw [if_pos h2, if_neg (by omega)]
    · rw [if_neg h2, if_pos (by omega)]
      have := impl_ReadFixed_run s w h.2 (by omega) w.toNat k 0 (by omega) (by omega) (by omega)
      exact this
  · rw [if_neg h, if_neg (by omega)]
    simp only [impl_ReadFixed.j0]; rfl

theorem FnExactReadFixed : laws_FnExactReadFixed.Pure := by
  intro s w hs hw
  refine ⟨9, ?_⟩
  unfold laws_FnExactReadFixed.f
  split
  · rfl
  · rw [spec_ReadFixed_f s w 9 (by omega), impl_ReadFixed_f s w 9 (by omega)]; simp

end Go.Proofs.Ytkmhjhbodocadaa.Pure
