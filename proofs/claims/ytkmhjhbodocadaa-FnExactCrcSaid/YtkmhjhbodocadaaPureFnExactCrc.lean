/- FnExactCrc: for every text the program's Crc returns what the reference's returns. -/
import Derived.Test.YtkmhjhbodocadaaPFnExactCrcx1
import Derived.Test.YtkmhjhbodocadaaBase
import Derived.Test.YtkmhjhbodocadaaNumCrc
namespace Go.Proofs.Ytkmhjhbodocadaa.Pure
open Go.RowKit Go.Proofs.Ytkmhjhbodocadaa.PFnExactCrc Go.Proofs.YtkmhjhbodocadaaW.PrintWords Go.Proofs.YtkmhjhbodocadaaW.PrintLast Go.Proofs.YtkmhjhbodocadaaW.PrintMore Go.Proofs.Ytkmhjhbodocadaa.Base
set_option linter.unusedVariables false
set_option linter.unusedSimpArgs false

/-! Crc -/
theorem spec_Crc_inner (s : ByteArray) (i : Int) : ∀ (d k : Nat) (j c : Int), j + d = 8 → 0 ≤ j → 0 ≤ c → c < 4294967296 →
    spec_Crc.l1 (k + d + 1) s c i j = spec_Crc.l0 k s (crcI d c) (wrap64 (i + 1)) := by
  intro d
  induction d with
  | zero =>
    intro k j c hj h0 c0 c1
    simp only [spec_Crc.l1]
    rw [if_neg (by omega)]; rfl
  | succ d ih =>
    intro k j c hj h0 c0 c1
    obtain ⟨q, hq⟩ : ∃ q, k + d + 1 = q := ⟨_, rfl⟩
    rw [show k + (d + 1) + 1 = q + 1 by omega]
    simp only [spec_Crc.l1]
    have hr := crc1_range c0 c1
    rw [if_pos (by omega), tmod_nn c0, tdiv_nn c0, w64 (n := c / 2) (by omega) (by omega), w64 (n := j + 1) (by omega) (by omega), crcI]
    by_cases h : c % 2 = 1
    · rw [if_pos h, bits_xor64 (by omega) (by omega) (by omega) (by omega)]
      have e : crc1 c = xr (c / 2) 2197175160 := by unfold crc1; rw [if_pos h]
      rw [← e, ← hq, ih k (j + 1) _ (by omega) (by omega) hr.1 hr.2]
    · rw [if_neg h]
      have e : crc1 c = c / 2 := by unfold crc1; rw [if_neg h]
      rw [← e, ← hq, ih k (j + 1) _ (by omega) (by omega) hr.1 hr.2]

theorem spec_Crc_run (s : ByteArray) (hs : s.size ≤ 140737488351232) : ∀ (d k : Nat) (i c : Int), 0 ≤ i → i + d = s.size → 0 ≤ c → c < 4294967296 →
    spec_Crc.l0 (k + 10 * d + 1) s c i = some (4294967295 - crcL ((bytesOf s).drop i.toNat) c) := by
  intro d
  induction d with
  | zero =>
    intro k i c h0 h1 c0 c1
    simp only [spec_Crc.l0]
    rw [if_neg (by omega), List.drop_of_length_le (by rw [bytesOf_length]; omega), w64 (by omega) (by omega)]; rfl
  | succ d ih =>
    intro k i c h0 h1 c0 c1
    obtain ⟨q, hq⟩ : ∃ q, (k + 10 * d + 1) + 8 + 1 = q := ⟨_, rfl⟩
    rw [show k + 10 * (d + 1) + 1 = q + 1 by omega]
    have hlt : i < (s.size : Int) := by omega
    obtain ⟨b0, b1⟩ := bt_range s i
    obtain ⟨r0, r1⟩ := xr_range (a := c) (b := bt s i) c1 (by omega)
    obtain ⟨q0, q1⟩ := crcI_range 8 r0 r1
    simp only [spec_Crc.l0]
    rw [if_pos hlt, if_pos h0, w64 (n := bt s i) (by omega) (by omega), bits_xor64 c0 c1 b0 (by omega), ← hq, spec_Crc_inner s i 8 _ 0 _ (by omega) (by omega) r0 r1, w64 (n := i + 1) (by omega) (by omega), ih k (i + 1) _ (by omega) (by omega) q0 q1, bt_drop h0 hlt, show (i + 1).toNat = i.toNat + 1 by omega]; rfl

theorem spec_Crc_f (s : ByteArray) (hs : s.size ≤ 140737488351232) (k : Nat) (hk : 10 * s.size < k) : spec_Crc.f k s = some (crcM (bytesOf s)) := by
  obtain ⟨q, rfl⟩ : ∃ m, k = m + 10 * s.size + 1 := ⟨k - 10 * s.size - 1, by omega⟩
  unfold spec_Crc.f
  exact spec_Crc_run s hs s.size q 0 _ (by omega) (by omega) (by omega) (by omega)

theorem impl_Crc_inner (s : ByteArray) (n i : Int) : ∀ (d k : Nat) (j c : Int), j + d = 8 → 0 ≤ j → 0 ≤ c → c < 4294967296 →
    impl_Crc.l1 (k + d + 1) s c n i j = impl_Crc.l0 k s (crcI d c) n (wrap64 (i + 1)) := by
  intro d
  induction d with
  | zero =>
    intro k j c hj h0 c0 c1
    simp only [impl_Crc.l1]
    rw [if_neg (by omega)]; rfl
  | succ d ih =>
    intro k j c hj h0 c0 c1
    obtain ⟨q, hq⟩ : ∃ q, k + d + 1 = q := ⟨_, rfl⟩
    rw [show k + (d + 1) + 1 = q + 1 by omega]
    simp only [impl_Crc.l1]
    have hr := crc1_range c0 c1
    rw [if_pos (by omega), bits_and1 c0 c1, w64 (n := j + 1) (by omega) (by omega), crcI]
    by_cases h : c % 2 = 1
    · rw [if_pos h, bits_xor32 (by omega) (by omega) (by omega) (by omega)]
      have e : crc1 c = xr (c / 2) 2197175160 := by unfold crc1; rw [if_pos h]
      rw [← e, ← hq, ih k (j + 1) _ (by omega) (by omega) hr.1 hr.2]
    · rw [if_neg h]
      have e : crc1 c = c / 2 := by unfold crc1; rw [if_neg h]
      rw [← e, ← hq, ih k (j + 1) _ (by omega) (by omega) hr.1 hr.2]

theorem impl_Crc_run (s : ByteArray) (hs : s.size ≤ 140737488351232) : ∀ (d k : Nat) (i c : Int), 0 ≤ i → i + d = s.size → 0 ≤ c → c < 4294967296 →
    impl_Crc.l0 (k + 10 * d + 1) s c (s.size : Int) i = some (4294967295 - crcL ((bytesOf s).drop i.toNat) c) := by
  intro d
  induction d with
  | zero =>
    intro k i c h0 h1 c0 c1
    simp only [impl_Crc.l0]
    rw [if_neg (by omega), List.drop_of_length_le (by rw [bytesOf_length]; omega), bits_xor32 (by omega) (by omega) c0 c1, xr_ones c0 c1, w64 (by omega) (by omega)]; rfl
  | succ d ih =>
    intro k i c h0 h1 c0 c1
    obtain ⟨q, hq⟩ : ∃ q, (k + 10 * d + 1) + 8 + 1 = q := ⟨_, rfl⟩
    rw [show k + 10 * (d + 1) + 1 = q + 1 by omega]
    have hlt : i < (s.size : Int) := by omega
    obtain ⟨b0, b1⟩ := bt_range s i
    obtain ⟨r0, r1⟩ := xr_range (a := c) (b := bt s i) c1 (by omega)
    obtain ⟨q0, q1⟩ := crcI_range 8 r0 r1
    simp only [impl_Crc.l0]
    rw [if_pos hlt, if_pos h0, if_pos hlt, show bt s i % 4294967296 = bt s i by omega, bits_xor32 c0 c1 b0 (by omega), ← hq, impl_Crc_inner s _ i 8 _ 0 _ (by omega) (by omega) r0 r1, w64 (n := i + 1) (by omega) (by omega), ih k (i + 1) _ (by omega) (by omega) q0 q1, bt_drop h0 hlt, show (i + 1).toNat = i.toNat + 1 by omega]; rfl

theorem impl_Crc_f (s : ByteArray) (hs : s.size ≤ 140737488351232) (k : Nat) (hk : 10 * s.size < k) : impl_Crc.f k s = some (crcM (bytesOf s)) := by
  obtain ⟨q, rfl⟩ : ∃ m, k = m + 10 * s.size + 1 := ⟨k - 10 * s.size - 1, by omega⟩
  unfold impl_Crc.f
  exact impl_Crc_run s hs s.size q 0 _ (by omega) (by omega) (by omega) (by omega)

theorem FnExactCrc : laws_FnExactCrc.Pure := by
  intro s hs
  refine ⟨10 * s.size + 1, ?_⟩
  unfold laws_FnExactCrc.f
  split
  · rfl
  · rw [spec_Crc_f s hs _ (by omega), impl_Crc_f s hs _ (by omega)]; simp

end Go.Proofs.Ytkmhjhbodocadaa.Pure
