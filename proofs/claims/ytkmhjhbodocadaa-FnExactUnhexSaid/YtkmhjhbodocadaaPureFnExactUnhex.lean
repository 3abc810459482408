/- FnExactUnhex: for every text the program's Unhex returns what the reference's returns. -/
import Derived.Test.YtkmhjhbodocadaaPFnExactUnhexx1
import Derived.Test.YtkmhjhbodocadaaBase
import Derived.Test.YtkmhjhbodocadaaNum
namespace Go.Proofs.Ytkmhjhbodocadaa.Pure
open Go.RowKit Go.Proofs.Ytkmhjhbodocadaa.PFnExactUnhex Go.Proofs.YtkmhjhbodocadaaW.PrintWords Go.Proofs.YtkmhjhbodocadaaW.PrintLast Go.Proofs.YtkmhjhbodocadaaW.PrintMore Go.Proofs.Ytkmhjhbodocadaa.Base
set_option linter.unusedVariables false
set_option linter.unusedSimpArgs false

/-! Unhex -/
theorem spec_hexV {c : Int} (c0 : 0 ≤ c) (c1 : c ≤ 255) (k : Nat) (hk : 17 ≤ k) : spec_l1FromHex.f k c = some (hexV c) := by
  have h : ∀ n : Fin 256, spec_l1FromHex.f 17 (n.val : Int) = some (hexV (n.val : Int)) := by decide +kernel
  have := h ⟨c.toNat, by omega⟩
  rw [show (((⟨c.toNat, by omega⟩ : Fin 256).val : Nat) : Int) = c by simp; omega] at this
  exact at_rounds (g := fun k => spec_l1FromHex.f k c) (fun k => spec_l1FromHex.mono c k) hk this

def unhexM (s : ByteArray) : ByteArray × Bool := if (s.size : Int) % 2 = 1 then (⟨#[]⟩, false) else match unhexL (bytesOf s) with
  | none => (⟨#[]⟩, false)
  | some r => (strOfNums r, true)

theorem unhexL_map (c : Int) (t : List Int) (xs : List Int) (e : ByteArray) : (match (unhexL t).map (fun r => c :: r) with | none => (e, false) | some r => (strOfNums (xs ++ r), true)) = (match unhexL t with | none => (e, false) | some r => (strOfNums ((xs ++ [c]) ++ r), true)) := by
  cases unhexL t <;> simp

theorem spec_Unhex_run (s : ByteArray) (hs : s.size ≤ 1048576) : ∀ (d k : Nat) (i : Int) (xs : List Int), 0 ≤ i → i + 2 * d = s.size → xs.length + d < 140737488355328 → d + 20 < k →
    spec_Unhex.l0 k s xs i = some (match unhexL ((bytesOf s).drop i.toNat) with | none => (⟨#[]⟩, false) | some r => (strOfNums (xs ++ r), true)) := by
  intro d
  induction d with
  | zero =>
    intro k i xs h0 h1 h2 hk
    obtain ⟨k, rfl⟩ : ∃ m, k = m + 1 := ⟨k - 1, by omega⟩
    simp only [spec_Unhex.l0]
    rw [if_neg (by omega), List.drop_of_length_le (by rw [bytesOf_length]; omega)]
    simp [unhexL]
  | succ d ih =>
    intro k i xs h0 h1 h2 hk
    obtain ⟨k, rfl⟩ : ∃ m, k = m + 1 := ⟨k - 1, by omega⟩
    have hlt : i < (s.size : Int) := by omega
    have hlt2 : i + 1 < (s.size : Int) := by omega
    obtain ⟨b0, b1⟩ := bt_range s i
    obtain ⟨d0, d1⟩ := bt_range s (i + 1)
    obtain ⟨v0, v1⟩ := hexV_range (bt s i)
    obtain ⟨u0, u1⟩ := hexV_range (bt s (i + 1))
    have hdr := bt_drop h0 hlt
    have hdr2 := bt_drop (i := i + 1) (by omega) hlt2
    rw [show (i + 1).toNat = i.toNat + 1 by omega] at hdr2
    simp only [spec_Unhex.l0]
    rw [if_pos hlt, if_pos h0, spec_hexV b0 b1 _ (by omega)]
    simp only [Option.bind_some]
    rw [w64 (n := i + 1) (by omega) (by omega), if_pos (by omega), if_pos hlt2, spec_hexV d0 d1 _ (by omega)]
    simp only [Option.bind_some]
    rw [hdr, hdr2, unhexL]
    by_cases g1 : hexV (bt s i) < 0
    · rw [if_pos g1, if_pos g1]
    · rw [if_neg g1, if_neg g1]
      by_cases g2 : hexV (bt s (i + 1)) < 0
      · rw [if_pos g2, if_pos g2]
      · rw [if_neg g2, if_neg g2, if_pos (by omega), w64 (n := i + 2) (by omega) (by omega), w64 (n := 16 * hexV (bt s i)) (by omega) (by omega), w64 (n := 16 * hexV (bt s i) + _) (by omega) (by omega), show (16 * hexV (bt s i) + hexV (bt s (i + 1))) % 256 = 16 * hexV (bt s i) + hexV (bt s (i + 1)) by omega, ih k (i + 2) _ (by omega) (by omega) (by simp; omega) (by omega), unhexL_map, show (i + 2).toNat = i.toNat + 1 + 1 by omega]

theorem spec_Unhex_f (s : ByteArray) (hs : s.size ≤ 1048576) (k : Nat) (hk : s.size + 21 < k) : spec_Unhex.f k s = some (unhexM s) := by
  unfold spec_Unhex.f unhexM
  by_cases h : (s.size : Int) % 2 = 1
  · rw [if_pos h, if_pos h]
  · rw [if_neg h, if_neg h, spec_Unhex_run s hs (s.size / 2) k 0 [] (by omega) (by omega) (by simp; omega) (by omega)]; rfl


theorem impl_hexV {c : Int} (c0 : 0 ≤ c) (c1 : c ≤ 255) (k : Nat) (hk : 17 ≤ k) : impl_hexDigit.f k c = some (hexV c) := by
  have h : ∀ n : Fin 256, impl_hexDigit.f 17 (n.val : Int) = some (hexV (n.val : Int)) := by decide +kernel
  have := h ⟨c.toNat, by omega⟩
  rw [show (((⟨c.toNat, by omega⟩ : Fin 256).val : Nat) : Int) = c by simp; omega] at this
  exact at_rounds (g := fun k => impl_hexDigit.f k c) (fun k => impl_hexDigit.mono c k) hk this

theorem impl_Unhex_run (s : ByteArray) (hs : s.size ≤ 1048576) : ∀ (d k : Nat) (i : Int) (xs : List Int), 0 ≤ i → i + 2 * d = s.size → xs.length + d < 140737488355328 → d + 20 < k →
    impl_Unhex.l0 k s xs i = some (match unhexL ((bytesOf s).drop i.toNat) with | none => (⟨#[]⟩, false) | some r => (strOfNums (xs ++ r), true)) := by
  intro d
  induction d with
  | zero =>
    intro k i xs h0 h1 h2 hk
    obtain ⟨k, rfl⟩ : ∃ m, k = m + 1 := ⟨k - 1, by omega⟩
    simp only [impl_Unhex.l0]
    rw [if_neg (by omega), List.drop_of_length_le (by rw [bytesOf_length]; omega)]
    simp [unhexL]
  | succ d ih =>
    intro k i xs h0 h1 h2 hk
    obtain ⟨k, rfl⟩ : ∃ m, k = m + 1 := ⟨k - 1, by omega⟩
    have hlt : i < (s.size : Int) := by omega
    have hlt2 : i + 1 < (s.size : Int) := by omega
    obtain ⟨b0, b1⟩ := bt_range s i
    obtain ⟨d0, d1⟩ := bt_range s (i + 1)
    obtain ⟨v0, v1⟩ := hexV_range (bt s i)
    obtain ⟨u0, u1⟩ := hexV_range (bt s (i + 1))
    have hdr := bt_drop h0 hlt
    have hdr2 := bt_drop (i := i + 1) (by omega) hlt2
    rw [show (i + 1).toNat = i.toNat + 1 by omega] at hdr2
    simp only [impl_Unhex.l0]
    rw [if_pos hlt, if_pos h0, impl_hexV b0 b1 _ (by omega)]
    simp only [Option.bind_some]
    rw [w64 (n := i + 1) (by omega) (by omega), if_pos (by omega), if_pos hlt2, impl_hexV d0 d1 _ (by omega)]
    simp only [Option.bind_some]
    rw [hdr, hdr2, unhexL]
    by_cases g1 : hexV (bt s i) < 0
    · rw [if_pos g1, if_pos g1]
    · rw [if_neg g1, if_neg g1]
      by_cases g2 : hexV (bt s (i + 1)) < 0
      · rw [if_pos g2, if_pos g2]
      · rw [if_neg g2, if_neg g2, if_pos (by omega), w64 (n := i + 2) (by omega) (by omega), w64 (n := 16 * hexV (bt s i)) (by omega) (by omega), w64 (n := 16 * hexV (bt s i) + _) (by omega) (by omega), show (16 * hexV (bt s i) + hexV (bt s (i + 1))) % 256 = 16 * hexV (bt s i) + hexV (bt s (i + 1)) by omega, ih k (i + 2) _ (by omega) (by omega) (by simp; omega) (by omega), unhexL_map, show (i + 2).toNat = i.toNat + 1 + 1 by omega]

theorem impl_Unhex_f (s : ByteArray) (hs : s.size ≤ 1048576) (k : Nat) (hk : s.size + 21 < k) : impl_Unhex.f k s = some (unhexM s) := by
  unfold impl_Unhex.f unhexM
  by_cases h : (s.size : Int) % 2 = 1
  · rw [if_neg (show ¬ (s.size : Int) % 2 = 0 by omega), if_pos h]
  · rw [if_pos (show (s.size : Int) % 2 = 0 by omega), if_neg h, impl_Unhex_run s hs (s.size / 2) k 0 [] (by omega) (by omega) (by simp; omega) (by omega)]; rfl


theorem FnExactUnhex : laws_FnExactUnhex.Pure := by
  intro s hs
  refine ⟨s.size + 22, ?_⟩
  unfold laws_FnExactUnhex.f
  by_cases hb : (s.size : Int) > 1048576
  · rw [if_pos hb]
  · rw [if_neg hb, spec_Unhex_f s (by omega) _ (by omega), impl_Unhex_f s (by omega) _ (by omega)]; simp

end Go.Proofs.Ytkmhjhbodocadaa.Pure
