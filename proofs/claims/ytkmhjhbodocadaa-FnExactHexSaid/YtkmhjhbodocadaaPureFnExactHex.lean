/- FnExactHex: for every input the program's Hex returns what the reference's returns. -/
import Derived.Test.YtkmhjhbodocadaaPFnExactHexx1
import Derived.Test.YtkmhjhbodocadaaBase
namespace Go.Proofs.Ytkmhjhbodocadaa.Pure
open Go.RowKit Go.Proofs.Ytkmhjhbodocadaa.PFnExactHex Go.Proofs.YtkmhjhbodocadaaW.PrintWords Go.Proofs.YtkmhjhbodocadaaW.PrintLast Go.Proofs.YtkmhjhbodocadaaW.PrintMore Go.Proofs.Ytkmhjhbodocadaa.Base
set_option linter.unusedVariables false
set_option linter.unusedSimpArgs false

/-! hexadecimal -/
def hexD : ByteArray := ⟨#[48, 49, 50, 51, 52, 53, 54, 55, 56, 57, 97, 98, 99, 100, 101, 102]⟩
def hexB (b : Int) : List Int := [bt hexD (b / 16), bt hexD (b % 16)]
def hexL : List Int → List Int
  | [] => []
  | b :: l => hexB b ++ hexL l

theorem and15 {b : Int} (h0 : 0 ≤ b) (h1 : b ≤ 255) : Go.bits .and .u8 b 15 = b % 16 := by
  have h : ∀ n : Fin 256, Go.bits .and .u8 (n.val : Int) 15 = (n.val : Int) % 16 := by decide +kernel
  have := h ⟨b.toNat, by omega⟩
  simpa [Int.toNat_of_nonneg h0] using this

theorem spec_l1Digit_run {a : Int} (h0 : 0 ≤ a) (h1 : a < 16) : spec_l1Digit.f a = some (bt hexD a) := by
  unfold spec_l1Digit.f; rw [if_pos h0, if_pos h1]; rfl

theorem spec_Hex_run (s : ByteArray) (hs : s.size ≤ 1048576) : ∀ (d k : Nat) (i : Int) (xs : List Int), 0 ≤ i → i + d = s.size → xs.length + 2 * d < 140737488355328 → d < k →
    spec_Hex.l0 k s xs i = some (strOfNums (xs ++ hexL ((bytesOf s).drop i.toNat))) := by
  intro d
  induction d with
  | zero =>
    intro k i xs h0 h1 h2 hk
    obtain ⟨k, rfl⟩ : ∃ m, k = m + 1 := ⟨k - 1, by omega⟩
    simp only [spec_Hex.l0]
    rw [if_neg (by omega), List.drop_of_length_le (by rw [bytesOf_length]; omega)]
    simp [hexL]
  | succ d ih =>
    intro k i xs h0 h1 h2 hk
    obtain ⟨k, rfl⟩ : ∃ m, k = m + 1 := ⟨k - 1, by omega⟩
    have hlt : i < (s.size : Int) := by omega
    obtain ⟨b0, b1⟩ := bt_range s i
    have e1 : wrap64 (bt s i) = bt s i := w64 (by omega) (by omega)
    have e2 : wrap64 (Int.tdiv (bt s i) 16) = bt s i / 16 := by rw [tdiv_nn b0]; exact w64 (by omega) (by omega)
    have e3 : Int.tmod (bt s i) 16 = bt s i % 16 := tmod_nn b0 16
    have e4 : wrap64 (i + 1) = i + 1 := w64 (by omega) (by omega)
    simp only [spec_Hex.l0]
    rw [if_pos hlt, if_pos h0, e1, e2, e3, spec_l1Digit_run (by omega) (by omega), spec_l1Digit_run (by omega) (by omega)]
    simp only [Option.bind_some]
    rw [if_pos (by simp; omega), e4, ih k (i + 1) _ (by omega) (by omega) (by simp; omega) (by omega), bt_drop h0 hlt, show (i + 1).toNat = i.toNat + 1 by omega]
    simp [hexL, hexB]

theorem impl_Hex_run (s : ByteArray) (hs : s.size ≤ 1048576) : ∀ (d k : Nat) (i : Int) (xs : List Int), 0 ≤ i → i + d = s.size → xs.length + 2 * d < 140737488355328 → d < k →
    impl_Hex.l0 k s xs (s.size : Int) i = some (strOfNums (xs ++ hexL ((bytesOf s).drop i.toNat))) := by
  intro d
  induction d with
  | zero =>
    intro k i xs h0 h1 h2 hk
    obtain ⟨k, rfl⟩ : ∃ m, k = m + 1 := ⟨k - 1, by omega⟩
    simp only [impl_Hex.l0]
    rw [if_neg (by omega), List.drop_of_length_le (by rw [bytesOf_length]; omega)]
    simp [hexL]
  | succ d ih =>
    intro k i xs h0 h1 h2 hk
    obtain ⟨k, rfl⟩ : ∃ m, k = m + 1 := ⟨k - 1, by omega⟩
    have hlt : i < (s.size : Int) := by omega
    obtain ⟨b0, b1⟩ := bt_range s i
    have e1 : Go.bits .and .u8 (bt s i) 15 = bt s i % 16 := and15 b0 b1
    have e4 : wrap64 (i + 1) = i + 1 := w64 (by omega) (by omega)
    simp only [impl_Hex.l0]
    rw [if_pos hlt, if_pos h0, if_pos hlt, e1, if_pos (by omega), if_pos (by omega), if_pos (by omega), if_pos (by omega)]
    simp only [Option.bind_some]
    rw [if_pos (by simp; omega), e4, ih k (i + 1) _ (by omega) (by omega) (by simp; omega) (by omega), bt_drop h0 hlt, show (i + 1).toNat = i.toNat + 1 by omega]
    simp [hexL, hexB, hexD]

theorem spec_Hex_f (s : ByteArray) (hs : s.size ≤ 1048576) (k : Nat) (hk : s.size < k) : spec_Hex.f k s = some (strOfNums (hexL (bytesOf s))) := by
  unfold spec_Hex.f; rw [spec_Hex_run s hs s.size k 0 [] (by omega) (by omega) (by simp; omega) hk]; simp
theorem impl_Hex_f (s : ByteArray) (hs : s.size ≤ 1048576) (k : Nat) (hk : s.size < k) : impl_Hex.f k s = some (strOfNums (hexL (bytesOf s))) := by
  unfold impl_Hex.f; rw [impl_Hex_run s hs s.size k 0 [] (by omega) (by omega) (by simp; omega) hk]; simp

theorem FnExactHex : laws_FnExactHex.Pure := by
  intro s hs
  unfold laws_FnExactHex.f
  by_cases hb : (s.size : Int) > 1048576
  · exact ⟨0, by rw [if_pos hb]⟩
  · refine ⟨s.size + 1, ?_⟩
    rw [if_neg hb, spec_Hex_f s (by omega) _ (by omega), impl_Hex_f s (by omega) _ (by omega)]
    simp

end Go.Proofs.Ytkmhjhbodocadaa.Pure
