/- A log's replay is that of the reference. -/
import Derived.Test.YtflegbpgkkiijaaPFnExactReplayx1
import Derived.Test.YtflegbpgkkiijaaPFnExactReplayx2
import Derived.Test.YtflegbpgkkiijaaPFnExactReplayx3
import Derived.Test.YtflegbpgkkiijaaPFnExactReplayx4
import Derived.Test.YtflegbpgkkiijaaPFnExactReplayx5
import Derived.Test.YtflegbpgkkiijaaPFnExactReplayx6
import Derived.Test.YtflegbpgkkiijaaPFnExactReplayx7
import Derived.Test.YtflegbpgkkiijaaPFnExactReplayx8
import Derived.Test.YtflegbpgkkiijaaPFnExactReplayx9
import Derived.Test.YtflegbpgkkiijaaPFnExactReplayx10
import Derived.Test.YtflegbpgkkiijaaPFnExactReplayx11
import Derived.Test.YtflegbpgkkiijaaPFnExactReplayx12
import Derived.Test.YtflegbpgkkiijaaPFnExactReplayx13
import Derived.Test.YtflegbpgkkiijaaPFnExactReplayx14
import Derived.Test.YtflegbpgkkiijaaPFnExactReplayx15
import Derived.Test.YtflegbpgkkiijaaPFnExactReplayx16
import Derived.Test.YtflegbpgkkiijaaPFnExactReplayx17
import Derived.Test.YtflegbpgkkiijaaPFnExactReplayx18
import Derived.Test.YtflegbpgkkiijaaPFnExactReplayx19
import Derived.Test.YtflegbpgkkiijaaBase
import Derived.Test.YtflegbpgkkiijaaNum
import Derived.Test.YtflegbpgkkiijaaNumCrc
import Derived.Test.YtflegbpgkkiijaaNumFrame
import Derived.Test.YtflegbpgkkiijaaNumRec
import Derived.Test.YtflegbpgkkiijaaNumDec
namespace Go.Proofs.Ytflegbpgkkiijaa.Pure
open Go.RowKit Go.Proofs.Ytflegbpgkkiijaa.PFnExactReplay Go.Proofs.YtflegbpgkkiijaaW.PrintWords Go.Proofs.YtflegbpgkkiijaaW.PrintLast Go.Proofs.YtflegbpgkkiijaaW.PrintMore Go.Proofs.Ytflegbpgkkiijaa.Base
set_option linter.unusedVariables false
set_option linter.unusedSimpArgs false

/-! ranges -/
theorem spec_l1In_run (a b c : Int) : spec_l1In.f a b c = some (decide (b ≤ a ∧ a ≤ c)) := by
  unfold spec_l1In.f
  by_cases h : a ≥ b
  · rw [if_pos h]; congr 1; simp [show b ≤ a from h]
  · rw [if_neg h]; congr 1; simp; omega

theorem impl_from_run (a b c : Int) : impl_from.f a b c = some (decide (b ≤ a ∧ a ≤ c)) := by
  unfold impl_from.f
  by_cases h : a ≥ b
  · rw [if_pos h]; congr 1; simp [show b ≤ a from h]
  · rw [if_neg h]; congr 1; simp; omega

/-! Fixed -/
def fixM (n w : Int) : List Int := if 1 ≤ w ∧ w ≤ 7 ∧ 0 ≤ n ∧ n < 256 ^ w.toNat then fixL w.toNat n else []

theorem spec_Fixed_run (w : Int) (hw : w ≤ 7) : ∀ (d k : Nat) (n i : Int) (out : ByteArray), 0 ≤ i → i + d = w → 0 ≤ n → n ≤ 9223372036854775807 → out.size = i.toNat → d < k →
    spec_Fixed.l0 k n w out i = some (if n / 256 ^ d > 0 then (⟨#[]⟩ : ByteArray) else strOfNums (fixL d n) ++ out) := by
  intro d
  induction d with
  | zero =>
    intro k n i out h0 h1 n0 n1 ho hk
    obtain ⟨k, rfl⟩ : ∃ m, k = m + 1 := ⟨k - 1, by omega⟩
    simp only [spec_Fixed.l0]
    rw [if_neg (by omega)]
    have e : strOfNums (fixL 0 n) ++ out = out := bytesOf_inj (by rw [bytesOf_append, bytesOf_strOfNums (fixL_byt _ _)]; rfl)
    rw [e]
    simp only [Int.pow_zero, Int.ediv_one]
    split <;> rfl
  | succ d ih =>
    intro k n i out h0 h1 n0 n1 ho hk
    obtain ⟨k, rfl⟩ : ∃ m, k = m + 1 := ⟨k - 1, by omega⟩
    simp only [spec_Fixed.l0, Option.bind_some]
    rw [if_pos (by omega), size_strOfNums, if_pos (by simp; omega), tmod_nn n0, tdiv_nn n0, w64 (n := n / 256) (by omega) (by omega), w64 (n := i + 1) (by omega) (by omega)]
    rw [ih k (n / 256) (i + 1) _ (by omega) (by omega) (by omega) (by omega) (by rw [ByteArray.size_append, size_strOfNums, ho]; simp; omega) (by omega), div_pow_succ]
    have e : strOfNums (fixL d (n / 256)) ++ (strOfNums [n % 256 % 256] ++ out) = strOfNums (fixL (d + 1) n) ++ out := by
      rw [fixL, ← strOfNums_append, ByteArray.append_assoc, show n % 256 % 256 = n % 256 by omega]
    rw [e]

theorem spec_Fixed_f (n w : Int) (n1 : n ≤ 9223372036854775807) (k : Nat) (hk : 8 < k) : spec_Fixed.f k n w = some (strOfNums (fixM n w)) := by
  unfold spec_Fixed.f fixM
  rw [spec_l1In_run]; simp only [Option.bind_some, decide_eq_true_eq]
  obtain ⟨k, rfl⟩ : ∃ m, k = m + 1 := ⟨k - 1, by omega⟩
  by_cases h : 1 ≤ w ∧ w ≤ 7
  · rw [if_pos h]
    simp only [spec_Fixed.j0, decide_eq_true_eq]
    by_cases h2 : n < 0
    · rw [if_pos h2, if_neg (by omega)]; rfl
    · rw [if_neg h2, spec_Fixed_run w h.2 w.toNat k n 0 _ (by omega) (by omega) (by omega) (by omega) rfl (by omega)]
      have hp := pow256_pos w.toNat
      by_cases h3 : n < 256 ^ w.toNat
      · have hc : 1 ≤ w ∧ w ≤ 7 ∧ 0 ≤ n ∧ n < 256 ^ w.toNat := ⟨h.1, h.2, by omega, h3⟩
        rw [if_pos hc, Int.ediv_eq_zero_of_lt (by omega) h3, if_neg (by omega)]
        congr 1
        exact bytesOf_inj (by rw [bytesOf_append]; simp [bytesOf])
      · have hc : ¬ (1 ≤ w ∧ w ≤ 7 ∧ 0 ≤ n ∧ n < 256 ^ w.toNat) := fun hc => h3 hc.2.2.2
        have hd := div_ge_one hp (show 256 ^ w.toNat ≤ n by omega)
        rw [if_neg hc, if_pos (by omega)]; rfl
  · rw [if_neg h, if_neg (by omega)]
    simp only [spec_Fixed.j0]; rfl

theorem impl_Fixed_run (n : Int) : ∀ (d k : Nat) (xs : List Int), d ≤ 7 → xs.length + d < 100 → d < k →
    impl_Fixed.l0 k n xs ((d : Int) - 1) = some (strOfNums (xs ++ fixL d n)) := by
  intro d
  induction d with
  | zero =>
    intro k xs h7 hx hk
    obtain ⟨k, rfl⟩ : ∃ m, k = m + 1 := ⟨k - 1, by omega⟩
    simp only [impl_Fixed.l0]
    rw [if_neg (by omega)]; simp [fixL]
  | succ d ih =>
    intro k xs h7 hx hk
    obtain ⟨k, rfl⟩ : ∃ m, k = m + 1 := ⟨k - 1, by omega⟩
    simp only [impl_Fixed.l0]
    rw [show ((d + 1 : Nat) : Int) - 1 = (d : Int) by omega, if_pos (by omega), w64 (n := 8 * (d : Int)) (by omega) (by omega), if_pos (by omega), if_pos (by omega), w64 (n := (d : Int) - 1) (by omega) (by omega), shr8 n (by omega) (by omega), ih k _ (by omega) (by simp; omega) (by omega), fixL_cons]
    simp

theorem impl_Fixed_f (n w : Int) (k : Nat) (hk : 8 < k) : impl_Fixed.f k n w = some (strOfNums (fixM n w)) := by
  unfold impl_Fixed.f fixM
  rw [impl_from_run]; simp only [Option.bind_some, decide_eq_true_eq]
  obtain ⟨k, rfl⟩ : ∃ m, k = m + 1 := ⟨k - 1, by omega⟩
  by_cases h : 1 ≤ w ∧ w ≤ 7
  · rw [if_pos h]
    by_cases h2 : n < 0
    · rw [if_pos h2, if_neg (by omega)]; simp only [impl_Fixed.j0]; rfl
    · rw [if_neg h2, w64 (n := 8 * w) (by omega) (by omega), if_pos (by omega), shr8 n (by omega) (by omega)]
      have hp := pow256_pos w.toNat
      simp only [impl_Fixed.j0, bne_iff_ne, ne_eq]
      by_cases h3 : n < 256 ^ w.toNat
      · have hc : 1 ≤ w ∧ w ≤ 7 ∧ 0 ≤ n ∧ n < 256 ^ w.toNat := ⟨h.1, h.2, by omega, h3⟩
        rw [if_pos hc, Int.ediv_eq_zero_of_lt (by omega) h3, if_neg (by simp), w64 (n := w - 1) (by omega) (by omega)]
        have := impl_Fixed_run n w.toNat k [] (by omega) (by simp; omega) (by omega)
        rw [show ((w.toNat : Nat) : Int) - 1 = w - 1 by omega] at this
        rw [this]; simp
      · have hc : ¬ (1 ≤ w ∧ w ≤ 7 ∧ 0 ≤ n ∧ n < 256 ^ w.toNat) := fun hc => h3 hc.2.2.2
        have hd := div_ge_one hp (show 256 ^ w.toNat ≤ n by omega)
        rw [if_neg hc, if_pos (by omega)]; rfl
  · rw [if_neg h, if_neg (by omega)]
    simp only [impl_Fixed.j0]; rfl

/-! Var -/
def varM (n : Int) : List Int := if 0 ≤ n ∧ n ≤ 562949953421311 then varN n.toNat else []
theorem varM_byt (n : Int) : Byt (varM n) := by
  unfold varM; split
  · exact varN_byt _
  · exact byt_nil

theorem spec_Var_run : ∀ (d k n : Nat) (xs : List Int), n < 128 ^ (d + 1) → d ≤ 7 → xs.length + d < 100 → d < k →
    spec_Var.l0 k (n : Int) xs = some (strOfNums (xs ++ varN n)) := by
  intro d
  induction d with
  | zero =>
    intro k n xs h0 h7 h1 hk
    obtain ⟨k, rfl⟩ : ∃ m, k = m + 1 := ⟨k - 1, by omega⟩
    simp only [spec_Var.l0]
    rw [if_neg (by omega), if_pos (by omega), varN_lt (by omega), show (n : Int) % 256 = n by omega]
  | succ d ih =>
    intro k n xs h0 h7 h1 hk
    obtain ⟨k, rfl⟩ : ∃ m, k = m + 1 := ⟨k - 1, by omega⟩
    simp only [spec_Var.l0]
    have hb : n < 128 ^ 9 := Nat.lt_of_lt_of_le h0 (Nat.pow_le_pow_right (by omega) (by omega))
    by_cases h : n < 128
    · rw [if_neg (by omega), if_pos (by omega), varN_lt h, show (n : Int) % 256 = n by omega]
    · rw [if_pos (by omega), if_pos (by omega), varN_ge h, tdiv_nn (by omega), tmod_nn (by omega), w64 (n := (n : Int) / 128) (by omega) (by omega), w64 (n := 128 + (n : Int) % 128) (by omega) (by omega)]
      have e : (n : Int) / 128 = ((n / 128 : Nat) : Int) := by omega
      rw [e, ih k (n / 128) _ (by rw [pow128] at h0; omega) (by omega) (by simp; omega) (by omega)]
      have e2 : (128 + (n : Int) % 128) % 256 = ((n % 128 + 128 : Nat) : Int) := by omega
      rw [e2]; simp

theorem spec_Var_f (n : Int) (k : Nat) (hk : 8 < k) : spec_Var.f k n = some (strOfNums (varM n)) := by
  unfold spec_Var.f varM
  rw [spec_l1In_run]; simp only [Option.bind_some, decide_eq_true_eq]
  by_cases h : 0 ≤ n ∧ n ≤ 562949953421311
  · rw [if_pos h, if_pos h]
    have := spec_Var_run 6 k n.toNat [] (by omega) (by omega) (by simp) (by omega)
    rw [show ((n.toNat : Nat) : Int) = n by omega] at this
    rw [this]; rfl
  · rw [if_neg h, if_neg h]; rfl

theorem impl_Var_run : ∀ (d k n : Nat) (xs : List Int), n < 128 ^ (d + 1) → d ≤ 7 → xs.length + d < 100 → d < k →
    impl_Var.l0 k (n : Int) xs = some (strOfNums (xs ++ varN n)) := by
  intro d
  induction d with
  | zero =>
    intro k n xs h0 h7 h1 hk
    obtain ⟨k, rfl⟩ : ∃ m, k = m + 1 := ⟨k - 1, by omega⟩
    simp only [impl_Var.l0]
    rw [if_neg (by omega), if_pos (by omega), varN_lt (by omega), show (n : Int) % 256 = n by omega]
  | succ d ih =>
    intro k n xs h0 h7 h1 hk
    obtain ⟨k, rfl⟩ : ∃ m, k = m + 1 := ⟨k - 1, by omega⟩
    simp only [impl_Var.l0]
    have hb : n < 128 ^ 9 := Nat.lt_of_lt_of_le h0 (Nat.pow_le_pow_right (by omega) (by omega))
    by_cases h : n < 128
    · rw [if_neg (by omega), if_pos (by omega), varN_lt h, show (n : Int) % 256 = n by omega]
    · rw [if_pos (by omega), if_pos (by omega), varN_ge h, tdiv_nn (by omega), tmod_nn (by omega), w64 (n := (n : Int) / 128) (by omega) (by omega), w64 (n := (n : Int) % 128 + 128) (by omega) (by omega)]
      have e : (n : Int) / 128 = ((n / 128 : Nat) : Int) := by omega
      rw [e, ih k (n / 128) _ (by rw [pow128] at h0; omega) (by omega) (by simp; omega) (by omega)]
      have e2 : ((n : Int) % 128 + 128) % 256 = ((n % 128 + 128 : Nat) : Int) := by omega
      rw [e2]; simp

theorem impl_Var_f (n : Int) (k : Nat) (hk : 8 < k) : impl_Var.f k n = some (strOfNums (varM n)) := by
  unfold impl_Var.f varM
  rw [impl_from_run]; simp only [Option.bind_some, decide_eq_true_eq]
  by_cases h : 0 ≤ n ∧ n ≤ 562949953421311
  · rw [if_pos h, if_pos h]
    have := impl_Var_run 6 k n.toNat [] (by omega) (by omega) (by simp) (by omega)
    rw [show ((n.toNat : Nat) : Int) = n by omega] at this
    rw [this]; rfl
  · rw [if_neg h, if_neg h]; rfl

/-! Crc -/
theorem spec_Crc_inner (s : ByteArray) (i : Int) : ∀ (d k : Nat) (j c : Int), j + d = 8 → 0 ≤ j → 0 ≤ c → c < 4294967296 →
    spec_Crc.l1 (k + d + 1) s c i j = spec_Crc.l0 k s (crcI d c) (wrap64 (i + 1)) := by
  intro d
  induction d with
  | zero =>
    intro k j c hj h0 c0 c1
    simp only [spec_Crc.l1]
    rw [if_neg (by omega)]; rfl
  | succ d ih =>
    intro k j c hj h0 c0 c1
    obtain ⟨q, hq⟩ : ∃ q, k + d + 1 = q := ⟨_, rfl⟩
    rw [show k + (d + 1) + 1 = q + 1 by omega]
    simp only [spec_Crc.l1]
    have hr := crc1_range c0 c1
    rw [if_pos (by omega), tmod_nn c0, tdiv_nn c0, w64 (n := c / 2) (by omega) (by omega), w64 (n := j + 1) (by omega) (by omega), crcI]
    by_cases h : c % 2 = 1
    · rw [if_pos h, bits_xor64 (by omega) (by omega) (by omega) (by omega)]
      have e : crc1 c = xr (c / 2) 2197175160 := by unfold crc1; rw [if_pos h]
      rw [← e, ← hq, ih k (j + 1) _ (by omega) (by omega) hr.1 hr.2]
    · rw [if_neg h]
      have e : crc1 c = c / 2 := by unfold crc1; rw [if_neg h]
      rw [← e, ← hq, ih k (j + 1) _ (by omega) (by omega) hr.1 hr.2]

theorem spec_Crc_run (s : ByteArray) (hs : s.size ≤ 140737488351232) : ∀ (d k : Nat) (i c : Int), 0 ≤ i → i + d = s.size → 0 ≤ c → c < 4294967296 →
    spec_Crc.l0 (k + 10 * d + 1) s c i = some (4294967295 - crcL ((bytesOf s).drop i.toNat) c) := by
  intro d
  induction d with
  | zero =>
    intro k i c h0 h1 c0 c1
    simp only [spec_Crc.l0]
    rw [if_neg (by omega), List.drop_of_length_le (by rw [bytesOf_length]; omega), w64 (by omega) (by omega)]; rfl
  | succ d ih =>
    intro k i c h0 h1 c0 c1
    obtain ⟨q, hq⟩ : ∃ q, (k + 10 * d + 1) + 8 + 1 = q := ⟨_, rfl⟩
    rw [show k + 10 * (d + 1) + 1 = q + 1 by omega]
    have hlt : i < (s.size : Int) := by omega
    obtain ⟨b0, b1⟩ := bt_range s i
    obtain ⟨r0, r1⟩ := xr_range (a := c) (b := bt s i) c1 (by omega)
    obtain ⟨q0, q1⟩ := crcI_range 8 r0 r1
    simp only [spec_Crc.l0]
    rw [if_pos hlt, if_pos h0, w64 (n := bt s i) (by omega) (by omega), bits_xor64 c0 c1 b0 (by omega), ← hq, spec_Crc_inner s i 8 _ 0 _ (by omega) (by omega) r0 r1, w64 (n := i + 1) (by omega) (by omega), ih k (i + 1) _ (by omega) (by omega) q0 q1, bt_drop h0 hlt, show (i + 1).toNat = i.toNat + 1 by omega]; rfl

theorem spec_Crc_f (s : ByteArray) (hs : s.size ≤ 140737488351232) (k : Nat) (hk : 10 * s.size < k) : spec_Crc.f k s = some (crcM (bytesOf s)) := by
  obtain ⟨q, rfl⟩ : ∃ m, k = m + 10 * s.size + 1 := ⟨k - 10 * s.size - 1, by omega⟩
  unfold spec_Crc.f
  exact spec_Crc_run s hs s.size q 0 _ (by omega) (by omega) (by omega) (by omega)

theorem impl_Crc_inner (s : ByteArray) (n i : Int) : ∀ (d k : Nat) (j c : Int), j + d = 8 → 0 ≤ j → 0 ≤ c → c < 4294967296 →
    impl_Crc.l1 (k + d + 1) s c n i j = impl_Crc.l0 k s (crcI d c) n (wrap64 (i + 1)) := by
  intro d
  induction d with
  | zero =>
    intro k j c hj h0 c0 c1
    simp only [impl_Crc.l1]
    rw [if_neg (by omega)]; rfl
  | succ d ih =>
    intro k j c hj h0 c0 c1
    obtain ⟨q, hq⟩ : ∃ q, k + d + 1 = q := ⟨_, rfl⟩
    rw [show k + (d + 1) + 1 = q + 1 by omega]
    simp only [impl_Crc.l1]
    have hr := crc1_range c0 c1
    rw [if_pos (by omega), bits_and1 c0 c1, w64 (n := j + 1) (by omega) (by omega), crcI]
    by_cases h : c % 2 = 1
    · rw [if_pos h, bits_xor32 (by omega) (by omega) (by omega) (by omega)]
      have e : crc1 c = xr (c / 2) 2197175160 := by unfold crc1; rw [if_pos h]
      rw [← e, ← hq, ih k (j + 1) _ (by omega) (by omega) hr.1 hr.2]
    · rw [if_neg h]
      have e : crc1 c = c / 2 := by unfold crc1; rw [if_neg h]
      rw [← e, ← hq, ih k (j + 1) _ (by omega) (by omega) hr.1 hr.2]

theorem impl_Crc_run (s : ByteArray) (hs : s.size ≤ 140737488351232) : ∀ (d k : Nat) (i c : Int), 0 ≤ i → i + d = s.size → 0 ≤ c → c < 4294967296 →
    impl_Crc.l0 (k + 10 * d + 1) s c (s.size : Int) i = some (4294967295 - crcL ((bytesOf s).drop i.toNat) c) := by
  intro d
  induction d with
  | zero =>
    intro k i c h0 h1 c0 c1
    simp only [impl_Crc.l0]
    rw [if_neg (by omega), List.drop_of_length_le (by rw [bytesOf_length]; omega), bits_xor32 (by omega) (by omega) c0 c1, xr_ones c0 c1, w64 (by omega) (by omega)]; rfl
  | succ d ih =>
    intro k i c h0 h1 c0 c1
    obtain ⟨q, hq⟩ : ∃ q, (k + 10 * d + 1) + 8 + 1 = q := ⟨_, rfl⟩
    rw [show k + 10 * (d + 1) + 1 = q + 1 by omega]
    have hlt : i < (s.size : Int) := by omega
    obtain ⟨b0, b1⟩ := bt_range s i
    obtain ⟨r0, r1⟩ := xr_range (a := c) (b := bt s i) c1 (by omega)
    obtain ⟨q0, q1⟩ := crcI_range 8 r0 r1
    simp only [impl_Crc.l0]
    rw [if_pos hlt, if_pos h0, if_pos hlt, show bt s i % 4294967296 = bt s i by omega, bits_xor32 c0 c1 b0 (by omega), ← hq, impl_Crc_inner s _ i 8 _ 0 _ (by omega) (by omega) r0 r1, w64 (n := i + 1) (by omega) (by omega), ih k (i + 1) _ (by omega) (by omega) q0 q1, bt_drop h0 hlt, show (i + 1).toNat = i.toNat + 1 by omega]; rfl

theorem impl_Crc_f (s : ByteArray) (hs : s.size ≤ 140737488351232) (k : Nat) (hk : 10 * s.size < k) : impl_Crc.f k s = some (crcM (bytesOf s)) := by
  obtain ⟨q, rfl⟩ : ∃ m, k = m + 10 * s.size + 1 := ⟨k - 10 * s.size - 1, by omega⟩
  unfold impl_Crc.f
  exact impl_Crc_run s hs s.size q 0 _ (by omega) (by omega) (by omega) (by omega)

/-! Frame -/
theorem spec_Frame_f (s : ByteArray) (hs : s.size ≤ 140737488351232) (k : Nat) (hk : 21000 < k) : spec_Frame.f k s = some (strOfNums (frameM (bytesOf s))) := by
  obtain ⟨k, rfl⟩ : ∃ m, k = m + 1 := ⟨k - 1, by omega⟩
  unfold spec_Frame.f frameM
  rw [bytesOf_length]
  by_cases h0 : (s.size : Int) = 0
  · rw [if_pos h0, if_neg (by omega)]; simp only [spec_Frame.j0]; rfl
  · rw [if_neg h0]
    simp only [spec_Frame.j0]
    by_cases h1 : (s.size : Int) > 2000
    · rw [if_pos (by simpa using h1), if_neg (by omega)]; rfl
    · have hf : fixM (s.size : Int) 4 = fixL 4 s.size := by unfold fixM; rw [if_pos]; · rfl
                                                            · refine ⟨by omega, by omega, by omega, ?_⟩; rw [show ((4 : Int).toNat) = 4 from rfl]; omega
      have hz : (strOfNums (fixL 4 (s.size : Int))).size = 4 := by rw [size_strOfNums, fixL_length]
      have hb : bytesOf (strOfNums (fixL 4 (s.size : Int)) ++ s) = fixL 4 s.size ++ bytesOf s := by rw [bytesOf_append, bytesOf_strOfNums (fixL_byt _ _)]
      obtain ⟨c0, c1⟩ := crcM_range (l := fixL 4 (s.size : Int) ++ bytesOf s) (byt_append.2 ⟨fixL_byt _ _, byt_bytesOf s⟩)
      have hf2 : fixM (crcM (fixL 4 (s.size : Int) ++ bytesOf s)) 4 = fixL 4 (crcM (fixL 4 s.size ++ bytesOf s)) := by
        unfold fixM; rw [if_pos]; · rfl
        · refine ⟨by omega, by omega, c0, ?_⟩; rw [show ((4 : Int).toNat) = 4 from rfl]; omega
      rw [if_neg (by simpa using h1), if_pos (by omega), spec_Fixed_f _ _ (by omega) _ (by omega), hf]
      simp only [Option.bind_some]
      rw [if_pos (by omega), spec_Crc_f _ (by rw [ByteArray.size_append]; omega) _ (by rw [ByteArray.size_append]; omega), hb]
      simp only [Option.bind_some]
      rw [spec_Fixed_f _ _ (by omega) _ (by omega), hf2]
      simp only [Option.bind_some]
      rw [if_pos (by simp only [ByteArray.size_append, hz, size_strOfNums, fixL_length]; omega), if_pos (by simp only [ByteArray.size_append, hz, size_strOfNums, fixL_length]; omega), ← strOfNums_append, ← strOfNums_append, strOfNums_bytesOf]


theorem impl_Frame_f (s : ByteArray) (hs : s.size ≤ 140737488351232) (k : Nat) (hk : 21000 < k) : impl_Frame.f k s = some (strOfNums (frameM (bytesOf s))) := by
  unfold impl_Frame.f frameM
  rw [bytesOf_length, impl_from_run]
  simp only [Option.bind_some, decide_eq_true_eq]
  by_cases h1 : 1 ≤ (s.size : Int) ∧ (s.size : Int) ≤ 2000
  · rw [if_pos h1, if_pos h1]
    · have hf : fixM (s.size : Int) 4 = fixL 4 s.size := by unfold fixM; rw [if_pos]; · rfl
                                                            · refine ⟨by omega, by omega, by omega, ?_⟩; rw [show ((4 : Int).toNat) = 4 from rfl]; omega
      have hz : (strOfNums (fixL 4 (s.size : Int))).size = 4 := by rw [size_strOfNums, fixL_length]
      have hb : bytesOf (strOfNums (fixL 4 (s.size : Int)) ++ s) = fixL 4 s.size ++ bytesOf s := by rw [bytesOf_append, bytesOf_strOfNums (fixL_byt _ _)]
      obtain ⟨c0, c1⟩ := crcM_range (l := fixL 4 (s.size : Int) ++ bytesOf s) (byt_append.2 ⟨fixL_byt _ _, byt_bytesOf s⟩)
      have hf2 : fixM (crcM (fixL 4 (s.size : Int) ++ bytesOf s)) 4 = fixL 4 (crcM (fixL 4 s.size ++ bytesOf s)) := by
        unfold fixM; rw [if_pos]; · rfl
        · refine ⟨by omega, by omega, c0, ?_⟩; rw [show ((4 : Int).toNat) = 4 from rfl]; omega
      rw [impl_Fixed_f _ _ _ (by omega), hf]
      simp only [Option.bind_some]
      rw [if_pos (by omega), impl_Crc_f _ (by rw [ByteArray.size_append]; omega) _ (by rw [ByteArray.size_append]; omega), hb]
      simp only [Option.bind_some]
      rw [impl_Fixed_f _ _ _ (by omega), hf2]
      simp only [Option.bind_some]
      rw [if_pos (by simp only [ByteArray.size_append, hz, size_strOfNums, fixL_length]; omega), if_pos (by simp only [ByteArray.size_append, hz, size_strOfNums, fixL_length]; omega), ← strOfNums_append, ← strOfNums_append, strOfNums_bytesOf]
  · rw [if_neg h1, if_neg h1]; rfl


/-! ReadFixed -/
def rdFixM (s : ByteArray) (w : Int) : Int × Bool := if 1 ≤ w ∧ w ≤ 7 ∧ w ≤ (s.size : Int) then (be ((bytesOf s).take w.toNat), true) else (0, false)

theorem be_step {s : ByteArray} {i : Int} (h0 : 0 ≤ i) (h1 : i < (s.size : Int)) (h7 : i < 7) :
    be ((bytesOf s).take (i.toNat + 1)) = be ((bytesOf s).take i.toNat) * 256 + bt s i ∧ 0 ≤ be ((bytesOf s).take i.toNat) ∧ be ((bytesOf s).take i.toNat) < 281474976710656 := by
  refine ⟨by rw [bt_take h0 h1, be_snoc], ?_⟩
  obtain ⟨a, b⟩ := be_bound ((bytesOf s).take i.toNat) (byt_take (byt_bytesOf s) _)
  refine ⟨a, Int.lt_of_lt_of_le b ?_⟩
  have : ((bytesOf s).take i.toNat).length ≤ 6 := by rw [List.length_take]; omega
  exact Int.le_trans (pow256_le this) (show (256 : Int) ^ 6 ≤ 281474976710656 by decide)

theorem spec_ReadFixed_run (s : ByteArray) (w : Int) (hw : w ≤ 7) (hs : w ≤ (s.size : Int)) : ∀ (d k : Nat) (i : Int), 0 ≤ i → i + d = w → d < k →
    spec_ReadFixed.l0 k s w (be ((bytesOf s).take i.toNat)) i = some (be ((bytesOf s).take w.toNat), true) := by
  intro d
  induction d with
  | zero =>
    intro k i h0 h1 hk
    obtain ⟨k, rfl⟩ : ∃ m, k = m + 1 := ⟨k - 1, by omega⟩
    simp only [spec_ReadFixed.l0]
    rw [if_neg (by omega), show i = w by omega]
  | succ d ih =>
    intro k i h0 h1 hk
    obtain ⟨k, rfl⟩ : ∃ m, k = m + 1 := ⟨k - 1, by omega⟩
    obtain ⟨e, b0, b1⟩ := be_step (s := s) h0 (by omega) (by omega)
    obtain ⟨c0, c1⟩ := bt_range s i
    simp only [spec_ReadFixed.l0]
    rw [if_pos (by omega), if_pos h0, if_pos (by omega), w64 (n := bt s i) (by omega) (by omega), w64 (n := _ * 256) (by omega) (by omega), w64 (n := _ + bt s i) (by omega) (by omega), w64 (n := i + 1) (by omega) (by omega), ← e]
    have := ih k (i + 1) (by omega) (by omega) (by omega)
    rwa [show (i + 1).toNat = i.toNat + 1 by omega] at this

theorem spec_ReadFixed_f (s : ByteArray) (w : Int) (k : Nat) (hk : 8 < k) : spec_ReadFixed.f k s w = some (rdFixM s w) := by
  unfold spec_ReadFixed.f rdFixM
  rw [spec_l1In_run]; simp only [Option.bind_some, decide_eq_true_eq]
  obtain ⟨k, rfl⟩ : ∃ m, k = m + 1 := ⟨k - 1, by omega⟩
  by_cases h : 1 ≤ w ∧ w ≤ 7
  · rw [if_pos h]
    simp only [spec_ReadFixed.j0, decide_eq_true_eq]
    by_cases h2 : (s.size : Int) < w
    · rw [if_pos h2, if_neg (by omega)]
    · rw [if_neg h2, if_pos (by omega)]
      have := spec_ReadFixed_run s w h.2 (by omega) w.toNat k 0 (by omega) (by omega) (by omega)
      exact this
  · rw [if_neg h, if_neg (by omega)]
    simp only [spec_ReadFixed.j0]; rfl

theorem impl_ReadFixed_run (s : ByteArray) (w : Int) (hw : w ≤ 7) (hs : w ≤ (s.size : Int)) : ∀ (d k : Nat) (i : Int), 0 ≤ i → i + d = w → d < k →
    impl_ReadFixed.l0 k s (be ((bytesOf s).take i.toNat)) w i = some (be ((bytesOf s).take w.toNat), true) := by
  intro d
  induction d with
  | zero =>
    intro k i h0 h1 hk
    obtain ⟨k, rfl⟩ : ∃ m, k = m + 1 := ⟨k - 1, by omega⟩
    simp only [impl_ReadFixed.l0]
    rw [if_neg (by omega), show i = w by omega]
  | succ d ih =>
    intro k i h0 h1 hk
    obtain ⟨k, rfl⟩ : ∃ m, k = m + 1 := ⟨k - 1, by omega⟩
    obtain ⟨e, b0, b1⟩ := be_step (s := s) h0 (by omega) (by omega)
    obtain ⟨c0, c1⟩ := bt_range s i
    simp only [impl_ReadFixed.l0]
    rw [if_pos (by omega), if_pos h0, if_pos (by omega), w64 (n := bt s i) (by omega) (by omega), w64 (n := _ * 256) (by omega) (by omega), or_low b0 (by omega) (by omega) (by omega), w64 (n := i + 1) (by omega) (by omega), ← e]
    have := ih k (i + 1) (by omega) (by omega) (by omega)
    rwa [show (i + 1).toNat = i.toNat + 1 by omega] at this

theorem impl_ReadFixed_f (s : ByteArray) (w : Int) (k : Nat) (hk : 8 < k) : impl_ReadFixed.f k s w = some (rdFixM s w) := by
  unfold impl_ReadFixed.f rdFixM
  rw [impl_from_run]; simp only [Option.bind_some, decide_eq_true_eq]
  obtain ⟨k, rfl⟩ : ∃ m, k = m + 1 := ⟨k - 1, by omega⟩
  by_cases h : 1 ≤ w ∧ w ≤ 7
  · rw [if_pos h]
    simp only [impl_ReadFixed.j0, decide_eq_true_eq]
    by_cases h2 : (s.size : Int) < w
    · rw [if_pos h2, if_neg (by omega)]
    · rw [if_neg h2, if_pos (by omega)]
      have := impl_ReadFixed_run s w h.2 (by omega) w.toNat k 0 (by omega) (by omega) (by omega)
      exact this
  · rw [if_neg h, if_neg (by omega)]
    simp only [impl_ReadFixed.j0]; rfl

/-! Unframe -/
theorem bytes_same {a b : ByteArray} {l : List Int} (hl : Byt l) (ha : a = strOfNums l) : a.toList = b.toList ↔ l = bytesOf b := by
  rw [toList_eq_iff, ha]
  constructor
  · intro h; rw [← h, bytesOf_strOfNums hl]
  · intro h; rw [h, strOfNums_bytesOf]

theorem spec_Unframe_f (s : ByteArray) (hs : s.size ≤ 140737488351232) (k : Nat) (hk : 21001 < k) : spec_Unframe.f k s = some (unfM s) := by
  obtain ⟨k, rfl⟩ : ∃ m, k = m + 1 := ⟨k - 1, by omega⟩
  unfold spec_Unframe.f unfM
  rw [spec_ReadFixed_f _ _ _ (by omega)]
  simp only [Option.bind_some]
  unfold rdFixM
  by_cases h4 : (s.size : Int) < 4
  · rw [if_neg (show ¬ (1 ≤ (4 : Int) ∧ (4 : Int) ≤ 7 ∧ (4 : Int) ≤ (s.size : Int)) by omega), if_neg (by decide), if_pos h4]
  · rw [if_pos (show 1 ≤ (4 : Int) ∧ (4 : Int) ≤ 7 ∧ (4 : Int) ≤ (s.size : Int) by omega), if_pos rfl, if_neg h4]
    simp only
    rw [show (4 : Int).toNat = 4 from rfl]
    obtain ⟨b0, b1⟩ := be_bound ((bytesOf s).take 4) (byt_take (byt_bytesOf s) 4)
    have b2 : ((bytesOf s).take 4).length = 4 := by rw [List.length_take, bytesOf_length]; omega
    rw [b2] at b1
    generalize hn : be ((bytesOf s).take 4) = n at *
    simp only [spec_Unframe.j0]
    by_cases h0 : n = 0
    · rw [if_pos h0, if_pos trivial, if_neg (show ¬ (1 ≤ n ∧ n ≤ 2000) by omega)]
    · rw [if_neg h0]
      by_cases h1 : n > 2000
      · rw [if_pos (by simpa using h1), if_neg (show ¬ (1 ≤ n ∧ n ≤ 2000) by omega)]
      · rw [if_neg (by simpa using h1), if_pos (show 1 ≤ n ∧ n ≤ 2000 by omega), w64 (n := 8 + n) (by omega) (by omega), show 8 + n = n + 8 by omega]
        by_cases h2 : (s.size : Int) < n + 8
        · rw [if_pos h2, if_pos h2]
        · have he : bytesOf (s.extract 8 (n + 8).toNat) = ((bytesOf s).take (n + 8).toNat).drop 8 := bytesOf_extract _ _ _
          have hz : (s.extract 8 (n + 8).toNat).size ≤ 2000 := by rw [size_bytes, he, List.length_drop, List.length_take]; omega
          rw [if_neg h2, if_neg h2, if_pos (show 8 ≤ n + 8 by omega), if_pos (show n + 8 ≤ (s.size : Int) by omega), spec_Frame_f _ (by omega) _ (by omega)]
          simp only [Option.bind_some]
          have hq := bytes_same (b := s.extract 0 (n + 8).toNat) (frameM_byt (byt_bytesOf (s.extract 8 (n + 8).toNat))) rfl
          rw [bytesOf_extract s 0, List.drop_zero] at hq
          rw [if_pos (show 0 ≤ n + 8 by omega)]
          rw [he] at hq ⊢
          simp only [hq]
          split <;> rfl

theorem bytes_sameI {a b : ByteArray} {l : List Int} (hl : Byt l) (ha : a = strOfNums l) : a.toList = b.toList ↔ l = bytesOf b := by
  rw [toList_eq_iff, ha]
  constructor
  · intro h; rw [← h, bytesOf_strOfNums hl]
  · intro h; rw [h, strOfNums_bytesOf]

theorem impl_Unframe_f (s : ByteArray) (hs : s.size ≤ 140737488351232) (k : Nat) (hk : 21001 < k) : impl_Unframe.f k s = some (unfM s) := by
  unfold impl_Unframe.f unfM
  rw [impl_ReadFixed_f _ _ _ (by omega)]
  simp only [Option.bind_some]
  unfold rdFixM
  by_cases h4 : (s.size : Int) < 4
  · rw [if_neg (show ¬ (1 ≤ (4 : Int) ∧ (4 : Int) ≤ 7 ∧ (4 : Int) ≤ (s.size : Int)) by omega), if_neg (by decide), if_pos h4]
  · rw [if_pos (show 1 ≤ (4 : Int) ∧ (4 : Int) ≤ 7 ∧ (4 : Int) ≤ (s.size : Int) by omega), if_pos rfl, if_neg h4]
    simp only
    rw [show (4 : Int).toNat = 4 from rfl]
    obtain ⟨b0, b1⟩ := be_bound ((bytesOf s).take 4) (byt_take (byt_bytesOf s) 4)
    have b2 : ((bytesOf s).take 4).length = 4 := by rw [List.length_take, bytesOf_length]; omega
    rw [b2] at b1
    generalize hn : be ((bytesOf s).take 4) = n at *
    rw [impl_from_run]
    simp only [Option.bind_some, decide_eq_true_eq]
    by_cases h0 : 1 ≤ n ∧ n ≤ 2000
    · rw [if_pos h0, if_pos h0, w64 (n := n + 8) (by omega) (by omega)]
      · by_cases h2 : (s.size : Int) < n + 8
        · rw [if_pos h2, if_pos h2]
        · have he : bytesOf (s.extract 8 (n + 8).toNat) = ((bytesOf s).take (n + 8).toNat).drop 8 := bytesOf_extract _ _ _
          have hz : (s.extract 8 (n + 8).toNat).size ≤ 2000 := by rw [size_bytes, he, List.length_drop, List.length_take]; omega
          rw [if_neg h2, if_neg h2, if_pos (show 8 ≤ n + 8 by omega), if_pos (show n + 8 ≤ (s.size : Int) by omega), impl_Frame_f _ (by omega) _ (by omega)]
          simp only [Option.bind_some]
          have hq := bytes_sameI (b := s.extract 0 (n + 8).toNat) (frameM_byt (byt_bytesOf (s.extract 8 (n + 8).toNat))) rfl
          rw [bytesOf_extract s 0, List.drop_zero] at hq
          rw [if_pos (show 0 ≤ n + 8 by omega)]
          rw [he] at hq ⊢
          simp only [hq]
          split <;> rfl
    · rw [if_neg h0, if_neg h0]


/-! Frames -/
theorem frs_more : ∀ (f : Nat) (s : ByteArray) (a : Int), 0 ≤ a → a ≤ (s.size : Int) → (s.size : Int) - a < f → ∀ g, f ≤ g → frs g s a = frs f s a := by
  intro f
  induction f with
  | zero => intro s a h0 h1 h2; omega
  | succ f ih =>
    intro s a h0 h1 h2 g hg
    obtain ⟨g, rfl⟩ : ∃ m, g = m + 1 := ⟨g - 1, by omega⟩
    simp only [frs]
    by_cases hc : (unfM (s.extract a.toNat s.size)).2.2 = 0
    · obtain ⟨n0, n1, n2⟩ := unfM_ok hc
      rw [extract_size s a.toNat (by omega)] at n2
      rw [if_pos hc, if_pos hc, ih s _ (by omega) (by omega) (by omega) g (by omega)]
    · rw [if_neg hc, if_neg hc]

theorem spec_Frames_run (s : ByteArray) (hs : s.size ≤ 1048576) : ∀ (f k : Nat) (a : Int) (xs : List ByteArray), 0 ≤ a → a ≤ (s.size : Int) → (s.size : Int) - a < f → xs.length + f < 8796093022208 → 22000 + f < k →
    spec_Frames.l0 k s xs a = some (xs ++ (frs f s a).1, (frs f s a).2) := by
  intro f
  induction f with
  | zero => intro k a xs h0 h1 h2; omega
  | succ f ih =>
    intro k a xs h0 h1 h2 hx hk
    obtain ⟨k, rfl⟩ : ∃ m, k = m + 1 := ⟨k - 1, by omega⟩
    have hz := extract_size s a.toNat (by omega)
    simp only [spec_Frames.l0, frs]
    by_cases he : a < (s.size : Int)
    · rw [if_pos he, if_pos h0, if_pos h1, spec_Unframe_f _ (by omega) _ (by omega)]
      simp only [Option.bind_some]
      by_cases hc : (unfM (s.extract a.toNat s.size)).2.2 = 0
      · obtain ⟨n0, n1, n2⟩ := unfM_ok hc
        rw [hz] at n2
        rw [if_pos hc, if_pos hc, if_pos (by omega), w64 (by omega) (by omega), ih k _ _ (by omega) (by omega) (by omega) (by simp; omega) (by omega)]
        simp
      · rw [if_neg hc, if_neg hc]; simp
    · have hc : ¬ (unfM (s.extract a.toNat s.size)).2.2 = 0 := by rw [unfM_end (by omega)]; decide
      rw [if_neg he, if_neg hc]; simp

def frM (s : ByteArray) : List ByteArray × Int := frs (s.size + 1) s 0
theorem spec_Frames_f (s : ByteArray) (hs : s.size ≤ 1048576) (k : Nat) (hk : 1100000 < k) : spec_Frames.f k s = some (frM s) := by
  unfold spec_Frames.f frM
  rw [spec_Frames_run s hs (s.size + 1) k 0 [] (by omega) (by omega) (by omega) (by simp; omega) (by omega)]; simp

theorem frs_length : ∀ (f : Nat) (s : ByteArray) (a : Int), (frs f s a).1.length ≤ f := by
  intro f
  induction f with
  | zero => intro s a; simp [frs]
  | succ f ih =>
    intro s a
    simp only [frs]
    split
    · have := ih s (a + (unfM (s.extract a.toNat s.size)).2.1); simp; exact this
    · simp

theorem impl_Frames_run (s : ByteArray) (hs : s.size ≤ 140737488351232) : ∀ (f k : Nat) (a : Int) (xs : List ByteArray), 0 ≤ a → a ≤ (s.size : Int) → (s.size : Int) - a < f → xs.length + f < 8796093022208 → 22000 + f < k →
    impl_Frames.l0 k s xs a = some (xs ++ (frs f s a).1, (frs f s a).2) := by
  intro f
  induction f with
  | zero => intro k a xs h0 h1 h2; omega
  | succ f ih =>
    intro k a xs h0 h1 h2 hx hk
    obtain ⟨k, rfl⟩ : ∃ m, k = m + 1 := ⟨k - 1, by omega⟩
    have hz := extract_size s a.toNat (by omega)
    simp only [impl_Frames.l0, frs]
    rw [if_pos h0, if_pos h1, impl_Unframe_f _ (by omega) _ (by omega)]
    simp only [Option.bind_some]
    by_cases hc : (unfM (s.extract a.toNat s.size)).2.2 = 0
    · obtain ⟨n0, n1, n2⟩ := unfM_ok hc
      rw [hz] at n2
      rw [if_pos hc, if_pos hc, if_pos (by omega), w64 (by omega) (by omega), ih k _ _ (by omega) (by omega) (by omega) (by simp; omega) (by omega)]
      simp
    · rw [if_neg hc, if_neg hc]; simp
theorem impl_Frames_f (s : ByteArray) (hs : s.size ≤ 1048576) (k : Nat) (hk : 1100000 < k) : impl_Frames.f k s = some (frs (s.size + 1) s 0) := by
  unfold impl_Frames.f
  rw [impl_Frames_run s (by omega) (s.size + 1) k 0 [] (by omega) (by omega) (by omega) (by simp; omega) (by omega)]; simp

/-! RecOk -/
theorem spec_l5Based_run (i t : Int) : spec_l5Based.f i t = some (placeM i t) := by
  unfold spec_l5Based.f placeM
  simp only [spec_l1In_run, Option.bind_some, decide_eq_true_eq]
  repeat' split
  all_goals (congr 1; rw [Bool.eq_iff_iff]; simp only [decide_eq_true_eq, Bool.and_eq_true, beq_iff_eq, true_iff, Bool.false_eq_true, false_iff, iff_true, iff_false]; omega)

theorem impl_isTerm_run (a : Int) : impl_isTerm.f a = some (decide (1 ≤ a ∧ a ≤ 100000)) := by
  unfold impl_isTerm.f; rw [impl_from_run]; rfl
theorem impl_isVote_run (a : Int) : impl_isVote.f a = some (decide (-1 ≤ a ∧ a ≤ 4)) := by
  unfold impl_isVote.f; rw [impl_from_run]; rfl
theorem impl_isPlace_run (i t : Int) : impl_isPlace.f i t = some (placeM i t) := by
  unfold impl_isPlace.f placeM
  simp only [impl_from_run, impl_isTerm_run, Option.bind_some, decide_eq_true_eq]
  repeat' split
  all_goals (congr 1; rw [Bool.eq_iff_iff]; simp only [decide_eq_true_eq, Bool.and_eq_true, beq_iff_eq, true_iff, Bool.false_eq_true, false_iff, iff_true, iff_false]; omega)

theorem spec_RecOk_run (k t i v : Int) (d : ByteArray) : spec_RecOk.f k t i v d = some (recOkM k t i v d.size) := by
  unfold spec_RecOk.f recOkM
  simp only [spec_l1In_run, spec_l5Based_run, Option.bind_some, decide_eq_true_eq, toList_nil]
  repeat' split
  all_goals (first | rfl | (exfalso; omega) | (congr 1; (try simp only [placeM, decide_eq_true_eq] at *); rw [Bool.eq_iff_iff]; (try simp only [decide_eq_true_eq, Bool.and_eq_true, beq_iff_eq, true_iff, Bool.false_eq_true, false_iff, iff_true, iff_false]); omega))

theorem impl_RecOk_run (k t i v : Int) (d : ByteArray) : impl_RecOk.f k t i v d = some (recOkM k t i v d.size) := by
  unfold impl_RecOk.f recOkM
  simp only [impl_from_run, impl_isTerm_run, impl_isVote_run, impl_isPlace_run, Option.bind_some, decide_eq_true_eq, toList_nil]
  repeat' split
  all_goals (first | rfl | (exfalso; omega) | (congr 1; (try simp only [placeM, decide_eq_true_eq] at *); rw [Bool.eq_iff_iff]; (try simp only [decide_eq_true_eq, Bool.and_eq_true, beq_iff_eq, true_iff, Bool.false_eq_true, false_iff, iff_true, iff_false]); omega))

/-! ShowRec -/
def showRecM (k t i v : Int) (d : ByteArray) : List Int := if recOkM k t i v d.size then [k] ++ varM t ++ varM i ++ varM (v + 1) ++ bytesOf d else []
theorem showRecM_byt (k t i v : Int) (d : ByteArray) : Byt (showRecM k t i v d) := by
  unfold showRecM
  split
  · rename_i h
    have hk : 0 ≤ k ∧ k < 256 := by
      unfold recOkM at h
      repeat' split at h
      all_goals (first | omega | simp at h)
    exact byt_append.2 ⟨byt_append.2 ⟨byt_append.2 ⟨byt_append.2 ⟨byt_cons.2 ⟨hk, byt_nil⟩, varM_byt _⟩, varM_byt _⟩, varM_byt _⟩, byt_bytesOf _⟩
  · exact byt_nil
theorem varM_length (n : Int) : (varM n).length ≤ 7 := by
  unfold varM; split
  · exact varN_length 6 _ (by omega)
  · simp
theorem rec_small {k t i v : Int} {n : Nat} (h : recOkM k t i v n = true) : (k = 1 ∨ k = 2 ∨ k = 3 ∨ k = 4) ∧ n ≤ 900 ∧ -1 ≤ v ∧ v ≤ 4 := by
  unfold recOkM at h
  split at h
  · simp at h; omega
  · split at h
    · simp at h; omega
    · split at h
      · simp at h; omega
      · split at h
        · simp at h; omega
        · simp at h
theorem spec_ShowRec_f (k t i v : Int) (d : ByteArray) (f : Nat) (hf : 8 < f) : spec_ShowRec.f f k t i v d = some (strOfNums (showRecM k t i v d)) := by
  unfold spec_ShowRec.f showRecM
  rw [spec_RecOk_run]
  simp only [Option.bind_some]
  by_cases h : recOkM k t i v d.size = true
  · obtain ⟨hk, hn, hv, hv2⟩ := rec_small h
    have l1 := varM_length t
    have l2 := varM_length i
    have l3 := varM_length (v + 1)
    rw [if_pos h, if_pos h, spec_Var_f _ _ hf, spec_Var_f _ _ hf, spec_Var_f _ _ hf, w64 (by omega) (by omega)]
    simp only [Option.bind_some, ByteArray.size_append, size_strOfNums, List.length_cons, List.length_nil]
    rw [if_pos (by omega), if_pos (by omega), if_pos (by omega), if_pos (by omega), show k % 256 = k by omega]
    congr 1
    rw [strOfNums_append, strOfNums_append, strOfNums_append]
    conv => lhs; rw [← strOfNums_bytesOf d]
    rw [strOfNums_append]
  · rw [if_neg h, if_neg h]; rfl

theorem impl_ShowRec_f (k t i v : Int) (d : ByteArray) (f : Nat) (hf : 8 < f) : impl_ShowRec.f f k t i v d = some (strOfNums (showRecM k t i v d)) := by
  unfold impl_ShowRec.f showRecM
  rw [impl_RecOk_run]
  simp only [Option.bind_some]
  by_cases h : recOkM k t i v d.size = true
  · obtain ⟨hk, hn, hv, hv2⟩ := rec_small h
    have l1 := varM_length t
    have l2 := varM_length i
    have l3 := varM_length (v + 1)
    rw [if_pos h, if_pos h, impl_Var_f _ _ hf, impl_Var_f _ _ hf, impl_Var_f _ _ hf, w64 (by omega) (by omega)]
    simp only [Option.bind_some, ByteArray.size_append, size_strOfNums, List.length_cons, List.length_nil]
    rw [if_pos (by omega), if_pos (by omega), if_pos (by omega), if_pos (by omega), show k % 256 = k by omega]
    congr 1
    rw [strOfNums_append, strOfNums_append, strOfNums_append]
    conv => lhs; rw [← strOfNums_bytesOf d]
    rw [strOfNums_append]
  · rw [if_neg h, if_neg h]; rfl


/-! ReadVar -/
theorem varN_cons_ge {b : Int} {t : List Int} (hb : Byt (b :: t)) (h : b ≥ 128) (ht : varN (le7 t) = t) (hne : le7 t ≠ 0) : varN (le7 (b :: t)) = b :: t := by
  obtain ⟨⟨h0, h1⟩, _⟩ := byt_cons.1 hb
  rw [le7, varN_ge (by omega)]
  congr 1
  · omega
  · rw [show ((b % 128).toNat + 128 * le7 t) / 128 = le7 t by omega, ht]

/-- The text of a number: all bytes but the last are 128 or more, the last is below 128 and, behind another, not 0. -/
theorem varN_shape (n : Nat) : ∃ (a : List Int) (c : Int), varN n = a ++ [c] ∧ (∀ x ∈ a, x ≥ 128) ∧ c < 128 ∧ (a = [] ∨ c ≠ 0) := by
  induction n using Nat.strongRecOn with
  | _ n ih =>
    by_cases h : n < 128
    · exact ⟨[], (n : Int), by rw [varN_lt h]; rfl, by simp, by omega, .inl rfl⟩
    · obtain ⟨a, c, h1, h2, h3, h4⟩ := ih (n / 128) (by omega)
      refine ⟨((n % 128 + 128 : Nat) : Int) :: a, c, by rw [varN_ge h, h1]; rfl, ?_, h3, .inr ?_⟩
      · intro x hx
        rcases List.mem_cons.1 hx with rfl | hx
        · omega
        · exact h2 x hx
      · rcases h4 with rfl | h4
        · have h5 : varN (n / 128) = [c] := h1
          have h6 := le7_varN (n / 128)
          rw [h5] at h6
          intro hc
          rw [hc] at h6
          simp [le7] at h6
          omega
        · exact h4

theorem varN_back : ∀ (a : List Int) (c : Int), Byt (a ++ [c]) → (∀ x ∈ a, x ≥ 128) → c < 128 → (a = [] ∨ c ≠ 0) → varN (le7 (a ++ [c])) = a ++ [c]
  | [], c, hb, _, hc, _ => by
    obtain ⟨⟨h0, h1⟩, _⟩ := byt_cons.1 hb
    have : le7 ([] ++ [c]) = c.toNat := by simp [le7]; omega
    rw [this, varN_lt (by omega)]
    simp; omega
  | b :: a, c, hb, ha, hc, h0 => by
    have hc0 : c ≠ 0 := by rcases h0 with h0 | h0; · cases h0
                           · exact h0
    have hb2 := (byt_cons.1 hb).2
    have ih := varN_back a c hb2 (fun x hx => ha x (List.mem_cons_of_mem _ hx)) hc (.inr hc0)
    refine varN_cons_ge hb (ha b (List.mem_cons_self)) ih (fun h => ?_)
    have h7 : varN 0 = a ++ [c] := by rw [← h]; exact ih
    rw [varN_lt (by omega)] at h7
    cases a with
    | nil => simp at h7; omega
    | cons x y => simp at h7

theorem snoc_inj {a a' : List Int} {c c' : Int} (h : a ++ [c] = a' ++ [c']) : a = a' ∧ c = c' := by
  have := List.append_inj' h rfl
  exact ⟨this.1, by simpa using this.2⟩

/-- le7 over the bytes from behind, as the reference reads them. -/
theorem le7_snoc : ∀ (l : List Int) (b : Int), le7 (l ++ [b]) = le7 l + 128 ^ l.length * (b % 128).toNat
  | [], b => by simp [le7]
  | x :: l, b => by
    rw [List.cons_append, le7, le7_snoc l b, le7, List.length_cons, pow128, Nat.mul_add]
    have : 128 * (128 ^ l.length * (b % 128).toNat) = 128 ^ l.length * 128 * (b % 128).toNat := by
      rw [← Nat.mul_assoc, Nat.mul_comm 128 (128 ^ l.length)]
    omega

theorem spec_ReadVar_inner (s : ByteArray) (x4 : Int) (h4 : x4 ≤ 7) (h5 : x4 ≤ (s.size : Int)) : ∀ (d k : Nat) (i : Int), -1 ≤ i → i + 1 = d → d ≤ x4 → d < k →
    spec_ReadVar.l1 k s x4 (le7 (((bytesOf s).take x4.toNat).drop d) : Int) i =
      (spec_Var.f (k - d - 1) (le7 ((bytesOf s).take x4.toNat) : Int)).bind fun t111 => (if 0 ≤ x4 then (if x4 ≤ (s.size : Int) then (if t111.toList = (s.extract 0 (x4 : Int).toNat).toList then (some ((le7 ((bytesOf s).take x4.toNat) : Int), x4)) else (spec_ReadVar.l0 (k - d - 1) s (wrap64 (x4 + 1)))) else (none)) else (none)) := by
  intro d
  induction d with
  | zero =>
    intro k i h0 h1 h2 hk
    obtain ⟨k, rfl⟩ : ∃ m, k = m + 1 := ⟨k - 1, by omega⟩
    simp only [spec_ReadVar.l1]
    rw [if_neg (by omega), List.drop_zero]
    simp
  | succ d ih =>
    intro k i h0 h1 h2 hk
    obtain ⟨k, rfl⟩ : ∃ m, k = m + 1 := ⟨k - 1, by omega⟩
    have hi : i = d := by omega
    subst hi
    obtain ⟨c0, c1⟩ := bt_range s (d : Int)
    have hd : ((bytesOf s).take x4.toNat).drop d = bt s (d : Int) :: ((bytesOf s).take x4.toNat).drop (d + 1) := by
      have hlt : d < ((bytesOf s).take x4.toNat).length := by rw [List.length_take, bytesOf_length]; omega
      rw [List.drop_eq_getElem_cons hlt]
      congr 1
      have h3 := bt_get (s := s) (i := (d : Int)) (by omega) (by omega)
      rw [show ((d : Int)).toNat = d by omega] at h3
      rw [List.getElem_take]
      exact Option.some.inj ((List.getElem?_eq_getElem _).symm.trans h3)
    have hb := le7_bound (((bytesOf s).take x4.toNat).drop (d + 1))
    have hl : (((bytesOf s).take x4.toNat).drop (d + 1)).length ≤ 6 := by rw [List.length_drop, List.length_take]; omega
    have hb2 : le7 (((bytesOf s).take x4.toNat).drop (d + 1)) < 128 ^ 6 := Nat.lt_of_lt_of_le hb (Nat.pow_le_pow_right (by omega) hl)
    simp only [spec_ReadVar.l1]
    rw [if_pos (by omega), if_pos (by omega), if_pos (by omega), w64 (n := bt s (d : Int)) (by omega) (by omega), tmod_nn c0, w64 (n := _ * 128) (by omega) (by omega), w64 (n := _ + _) (by omega) (by omega), w64 (n := (d : Int) - 1) (by omega) (by omega)]
    have e : ((le7 (((bytesOf s).take x4.toNat).drop (d + 1)) : Int) * 128 + bt s (d : Int) % 128) = (le7 (((bytesOf s).take x4.toNat).drop d) : Int) := by
      rw [hd, le7]; omega
    rw [e, ih k ((d : Int) - 1) (by omega) (by omega) (by omega) (by omega), show k + 1 - (d + 1) - 1 = k - d - 1 by omega]

/-- Some byte ahead of the last is below 128: no text of a number begins so. -/
theorem spec_ReadVar_none (s : ByteArray) (p : Nat) (hp : p < s.size) (hlow : bt s (p : Int) < 128) : ∀ (d k : Nat) (x4 : Int), (p : Int) + 1 < x4 → x4 + d = 8 → 30 * d + 30 < k →
    spec_ReadVar.l0 k s x4 = some (0, 0) := by
  intro d
  induction d with
  | zero =>
    intro k x4 h0 h1 hk
    obtain ⟨k, rfl⟩ : ∃ m, k = m + 2 := ⟨k - 2, by omega⟩
    simp only [spec_ReadVar.l0]
    rw [if_neg (by omega)]
    simp only [spec_ReadVar.j1]; rfl
  | succ d ih =>
    intro k x4 h0 h1 hk
    obtain ⟨k, rfl⟩ : ∃ m, k = m + 2 := ⟨k - 2, by omega⟩
    simp only [spec_ReadVar.l0]
    rw [if_pos (by omega)]
    simp only [spec_ReadVar.j1, decide_eq_true_eq]
    by_cases hs : x4 ≤ (s.size : Int)
    · rw [if_pos hs, w64 (n := x4 - 1) (by omega) (by omega)]
      have h9 := spec_ReadVar_inner s x4 (by omega) hs x4.toNat k (x4 - 1) (by omega) (by omega) (by omega) (by omega)
      rw [List.drop_of_length_le (by rw [List.length_take]; omega)] at h9
      rw [show ((le7 ([] : List Int) : Nat) : Int) = 0 from rfl] at h9
      rw [h9, spec_Var_f _ _ (by omega)]
      simp only [Option.bind_some]
      have hb := le7_bound ((bytesOf s).take x4.toNat)
      have hl : ((bytesOf s).take x4.toNat).length ≤ 7 := by rw [List.length_take]; omega
      have hb2 : le7 ((bytesOf s).take x4.toNat) < 128 ^ 7 := Nat.lt_of_lt_of_le hb (Nat.pow_le_pow_right (by omega) hl)
      rw [if_pos (by omega), if_pos hs, if_neg, w64 (n := x4 + 1) (by omega) (by omega), ih _ _ (by omega) (by omega) (by omega)]
      rw [toList_eq_iff]
      intro h
      have h := congrArg bytesOf h
      rw [bytesOf_strOfNums (varM_byt _), bytesOf_extract, List.drop_zero] at h
      unfold varM at h
      rw [if_pos (by omega)] at h
      obtain ⟨a, c, g1, g2, g3, g4⟩ := varN_shape (le7 ((bytesOf s).take x4.toNat))
      rw [show ((le7 ((bytesOf s).take x4.toNat) : Nat) : Int).toNat = le7 ((bytesOf s).take x4.toNat) by omega, g1] at h
      have hlen : a.length + 1 = x4.toNat := by
        have := congrArg List.length h
        rw [List.length_append, List.length_take, bytesOf_length] at this
        simp at this; omega
      have h3 := bt_get (s := s) (i := (p : Int)) (by omega) (by omega)
      rw [show ((p : Int)).toNat = p by omega] at h3
      have h4 : ((bytesOf s).take x4.toNat)[p]? = some (bt s (p : Int)) := by rw [List.getElem?_take_of_lt (by omega)]; exact h3
      rw [← h, List.getElem?_append_left (by omega)] at h4
      have := g2 _ (List.mem_of_getElem? h4)
      omega
    · rw [if_neg hs]

theorem spec_ReadVar_run (s : ByteArray) : ∀ (d k : Nat) (x4 : Int), 1 ≤ x4 → x4 + d = 8 → (∀ j : Nat, j + 1 < x4 → j < s.size → bt s (j : Int) ≥ 128) → (x4 - 1 ≤ (s.size : Int)) → 30 * d + 60 < k →
    spec_ReadVar.l0 k s x4 = some (rv ((bytesOf s).drop (x4 - 1).toNat) (x4 - 1).toNat (le7 ((bytesOf s).take (x4 - 1).toNat))) := by
  intro d
  induction d with
  | zero =>
    intro k x4 h0 h1 hj hsz hk
    obtain ⟨k, rfl⟩ : ∃ m, k = m + 2 := ⟨k - 2, by omega⟩
    simp only [spec_ReadVar.l0]
    rw [if_neg (by omega)]
    simp only [spec_ReadVar.j1]
    cases (bytesOf s).drop (x4 - 1).toNat with
    | nil => rfl
    | cons b t => rw [rv, if_neg (show ¬ (x4 - 1).toNat < 7 by omega)]; rfl
  | succ d ih =>
    intro k x4 h0 h1 hj hsz hk
    obtain ⟨k, rfl⟩ : ∃ m, k = m + 2 := ⟨k - 2, by omega⟩
    simp only [spec_ReadVar.l0]
    rw [if_pos (by omega)]
    simp only [spec_ReadVar.j1, decide_eq_true_eq]
    by_cases hs : x4 ≤ (s.size : Int)
    · rw [if_pos hs, w64 (n := x4 - 1) (by omega) (by omega)]
      have h9 := spec_ReadVar_inner s x4 (by omega) hs x4.toNat k (x4 - 1) (by omega) (by omega) (by omega) (by omega)
      rw [List.drop_of_length_le (by rw [List.length_take]; omega)] at h9
      rw [show ((le7 ([] : List Int) : Nat) : Int) = 0 from rfl] at h9
      rw [h9, spec_Var_f _ _ (by omega)]
      simp only [Option.bind_some]
      have hb := le7_bound ((bytesOf s).take x4.toNat)
      have hl : ((bytesOf s).take x4.toNat).length ≤ 7 := by rw [List.length_take]; omega
      have hb2 : le7 ((bytesOf s).take x4.toNat) < 128 ^ 7 := Nat.lt_of_lt_of_le hb (Nat.pow_le_pow_right (by omega) hl)
      have hlt : x4 - 1 < (s.size : Int) := by omega
      have ht := bt_take (s := s) (i := x4 - 1) (by omega) hlt
      rw [show (x4 - 1).toNat + 1 = x4.toNat by omega] at ht
      have hdr := bt_drop (s := s) (i := x4 - 1) (by omega) hlt
      obtain ⟨c0, c1⟩ := bt_range s (x4 - 1)
      rw [if_pos (by omega), if_pos hs, w64 (n := x4 + 1) (by omega) (by omega), hdr, rv, if_pos (show (x4 - 1).toNat < 7 by omega)]
      have hle : le7 ((bytesOf s).take x4.toNat) = le7 ((bytesOf s).take (x4 - 1).toNat) + 128 ^ (x4 - 1).toNat * (bt s (x4 - 1) % 128).toNat := by
        rw [ht, le7_snoc, List.length_take, bytesOf_length, Nat.min_eq_left (by omega)]
      have hlei : (le7 ((bytesOf s).take x4.toNat) : Int) = le7 ((bytesOf s).take (x4 - 1).toNat) + bt s (x4 - 1) % 128 * 128 ^ (x4 - 1).toNat := by
        rw [hle]; push_cast; rw [Int.mul_comm, show (((bt s (x4 - 1) % 128).toNat : Nat) : Int) = bt s (x4 - 1) % 128 by omega]
      have heq : (strOfNums (varM (le7 ((bytesOf s).take x4.toNat) : Int))).toList = (s.extract 0 x4.toNat).toList ↔ varN (le7 ((bytesOf s).take x4.toNat)) = (bytesOf s).take x4.toNat := by
        rw [toList_eq_iff]
        have hv : varM (le7 ((bytesOf s).take x4.toNat) : Int) = varN (le7 ((bytesOf s).take x4.toNat)) := by
          unfold varM; rw [if_pos (by omega), show ((le7 ((bytesOf s).take x4.toNat) : Nat) : Int).toNat = le7 ((bytesOf s).take x4.toNat) by omega]
        constructor
        · intro h
          have h := congrArg bytesOf h
          rwa [bytesOf_strOfNums (varM_byt _), bytesOf_extract, List.drop_zero, hv] at h
        · intro h
          apply bytesOf_inj
          rw [bytesOf_strOfNums (varM_byt _), bytesOf_extract, List.drop_zero, hv, h]
      have hall : ∀ x ∈ (bytesOf s).take (x4 - 1).toNat, x ≥ 128 := by
        intro x hx
        obtain ⟨j, hj1, hj2⟩ := List.mem_iff_getElem.1 hx
        rw [List.length_take, bytesOf_length] at hj1
        have h3 := bt_get (s := s) (i := (j : Int)) (by omega) (by omega)
        rw [show ((j : Int)).toNat = j by omega] at h3
        rw [List.getElem_take] at hj2
        have h6 : x = bt s (j : Int) := by rw [← hj2]; exact Option.some.inj ((List.getElem?_eq_getElem _).symm.trans h3)
        rw [h6]
        exact hj j (by omega) (by omega)
      have hbyt : Byt ((bytesOf s).take (x4 - 1).toNat ++ [bt s (x4 - 1)]) := by rw [← ht]; exact byt_take (byt_bytesOf s) _
      by_cases hhi : bt s (x4 - 1) ≥ 128
      · rw [if_pos hhi, if_neg, ih _ _ (by omega) (by omega) ?_ (by omega) (by omega), show (x4 + 1 - 1).toNat = x4.toNat by omega, ← hlei, show (x4 - 1).toNat + 1 = x4.toNat by omega]
        · intro j hj1 hj2
          by_cases hjx : (j : Int) + 1 < x4
          · exact hj j hjx hj2
          · have : (j : Int) = x4 - 1 := by omega
            rw [this]; exact hhi
        · rw [heq, ht]
          intro h
          obtain ⟨a, c, g1, g2, g3, g4⟩ := varN_shape (le7 ((bytesOf s).take (x4 - 1).toNat ++ [bt s (x4 - 1)]))
          rw [g1] at h
          have := (snoc_inj h).2
          omega
      · rw [if_neg hhi]
        by_cases hz : bt s (x4 - 1) = 0 ∧ (x4 - 1).toNat > 0
        · rw [if_pos hz, if_neg]
          · by_cases hd : d = 0
            · subst hd
              obtain ⟨q, hq⟩ : ∃ m, k - x4.toNat - 1 = m + 2 := ⟨k - x4.toNat - 3, by omega⟩
              rw [hq]
              simp only [spec_ReadVar.l0]
              rw [if_neg (by omega)]
              simp only [spec_ReadVar.j1]; rfl
            · exact spec_ReadVar_none s (x4 - 1).toNat (by omega) (by rw [show (((x4 - 1).toNat : Nat) : Int) = x4 - 1 by omega]; omega) d _ _ (by omega) (by omega) (by omega)
          · rw [heq, ht]
            intro h
            obtain ⟨a, c, g1, g2, g3, g4⟩ := varN_shape (le7 ((bytesOf s).take (x4 - 1).toNat ++ [bt s (x4 - 1)]))
            rw [g1] at h
            obtain ⟨k1, k2⟩ := snoc_inj h
            rcases g4 with g4 | g4
            · rw [g4] at k1
              have := congrArg List.length k1
              rw [List.length_take, bytesOf_length] at this
              simp at this
              omega
            · omega
        · rw [if_neg hz, if_pos, hlei]
          · congr 1; congr 1; omega
          · rw [heq, ht]
            refine varN_back _ _ hbyt hall (by omega) ?_
            by_cases hx1 : (x4 - 1).toNat = 0
            · left; rw [hx1]; rfl
            · right; intro h; exact hz ⟨h, by omega⟩
    · rw [if_neg hs, List.drop_of_length_le (by rw [bytesOf_length]; omega)]; rfl

theorem spec_ReadVar_f (s : ByteArray) (k : Nat) (hk : 300 < k) : spec_ReadVar.f k s = some (rv (bytesOf s) 0 0) := by
  unfold spec_ReadVar.f
  have := spec_ReadVar_run s 7 k 1 (by omega) (by omega) (fun j h => by omega) (by omega) (by omega)
  exact this

theorem pow128i (d : Nat) : (128 : Int) ^ (d + 1) = 128 ^ d * 128 := Int.pow_succ 128 d
theorem mul_pow_le {b p q : Int} (b0 : 0 ≤ b) (b1 : b ≤ 127) (hp : 0 ≤ p) (hq : p ≤ q) : 0 ≤ b * p ∧ b * p ≤ 127 * q := by
  refine ⟨Int.mul_nonneg b0 hp, ?_⟩
  exact Int.le_trans (Int.mul_le_mul_of_nonneg_right b1 hp) (by omega)
theorem impl_ReadVar_run (s : ByteArray) : ∀ (d k : Nat) (i n : Int), 0 ≤ i → i + d = 7 → 0 ≤ n → n < 128 ^ i.toNat → 2 * d + 2 < k →
    impl_ReadVar.l0 k s n i = some (rv ((bytesOf s).drop i.toNat) i.toNat n) := by
  intro d
  induction d with
  | zero =>
    intro k i n h0 h1 n0 n1 hk
    obtain ⟨k, rfl⟩ : ∃ m, k = m + 2 := ⟨k - 2, by omega⟩
    simp only [impl_ReadVar.l0]
    rw [if_neg (by omega)]
    simp only [impl_ReadVar.j1]
    cases (bytesOf s).drop i.toNat with
    | nil => rfl
    | cons b t => rw [rv, if_neg (show ¬ i.toNat < 7 by omega)]; rfl
  | succ d ih =>
    intro k i n h0 h1 n0 n1 hk
    obtain ⟨k, rfl⟩ : ∃ m, k = m + 2 := ⟨k - 2, by omega⟩
    simp only [impl_ReadVar.l0]
    rw [if_pos (by omega)]
    simp only [impl_ReadVar.j1, decide_eq_true_eq]
    by_cases hs : i < (s.size : Int)
    · obtain ⟨c0, c1⟩ := bt_range s i
      have hp : (0 : Int) < 128 ^ i.toNat := Int.pow_pos (by omega)
      have hq : (128 : Int) ^ i.toNat ≤ 4398046511104 := by
        have h : i = 0 ∨ i = 1 ∨ i = 2 ∨ i = 3 ∨ i = 4 ∨ i = 5 ∨ i = 6 := by omega
        rcases h with rfl | rfl | rfl | rfl | rfl | rfl | rfl <;> decide
      obtain ⟨m0, m1⟩ := mul_pow_le (b := bt s i % 128) (by omega) (by omega) (Int.le_of_lt hp) (Int.le_refl _)
      rw [if_pos hs, if_pos h0, if_pos hs, w64 (n := 7 * i) (by omega) (by omega), if_pos (by omega), tmod_nn c0, w64 (n := bt s i % 128) (by omega) (by omega), shl7 (by omega) (by omega) h0 (by omega), w64 (n := n + _) (by omega) (by omega), w64 (n := i + 1) (by omega) (by omega), bt_drop h0 hs, rv, if_pos (show i.toNat < 7 by omega)]
      by_cases hhi : bt s i ≥ 128
      · rw [if_pos hhi, if_pos hhi, ih _ _ _ (by omega) (by omega) (by omega) (by rw [show (i + 1).toNat = i.toNat + 1 by omega, pow128i]; omega) (by omega), show (i + 1).toNat = i.toNat + 1 by omega]
      · rw [if_neg hhi, if_neg hhi]
        have e1 : i + 1 = ((i.toNat + 1 : Nat) : Int) := by omega
        have e2 : i + 1 = ((i.toNat : Nat) : Int) + 1 := by omega
        by_cases hz : bt s i = 0
        · rw [if_pos hz]
          by_cases hi : i > 0
          · rw [if_pos hi, if_pos ⟨hz, by omega⟩]
          · rw [if_neg hi, if_neg (by omega), e2]
        · rw [if_neg hz, if_neg (by omega), e2]
    · rw [if_neg hs, List.drop_of_length_le (by rw [bytesOf_length]; omega)]; rfl

theorem impl_ReadVar_f (s : ByteArray) (k : Nat) (hk : 20 < k) : impl_ReadVar.f k s = some (rv (bytesOf s) 0 0) := by
  unfold impl_ReadVar.f
  exact impl_ReadVar_run s 7 k 0 0 (by omega) (by omega) (by omega) (by decide) (by omega)

/-! What reading a number comes to, at a place of a text -/
theorem rv_bound : ∀ (l : List Int) (i : Nat) (n : Int), Byt l → 0 ≤ n → n < 128 ^ i → i ≤ 7 → 0 ≤ (rv l i n).1 ∧ (rv l i n).1 < 562949953421312 ∧ 0 ≤ (rv l i n).2 ∧ (rv l i n).2 ≤ (i : Int) + l.length ∧ (rv l i n).2 ≤ 7
  | [], i, n, _, _, _, _ => by simp [rv]
  | b :: t, i, n, hb, h0, h1, hi => by
    obtain ⟨⟨b0, b1⟩, ht⟩ := byt_cons.1 hb
    unfold rv
    by_cases h7 : i < 7
    · rw [if_pos h7]
      have hp : (0 : Int) < 128 ^ i := Int.pow_pos (by omega)
      have hm0 : 0 ≤ b % 128 * 128 ^ i := Int.mul_nonneg (by omega) (by omega)
      have hm1 : b % 128 * 128 ^ i ≤ 127 * 128 ^ i := Int.mul_le_mul_of_nonneg_right (by omega) (by omega)
      have hs : (128 : Int) ^ (i + 1) = 128 ^ i * 128 := Int.pow_succ 128 i
      have hp7 : (128 : Int) ^ (i + 1) ≤ 562949953421312 := by
        have : i = 0 ∨ i = 1 ∨ i = 2 ∨ i = 3 ∨ i = 4 ∨ i = 5 ∨ i = 6 := by omega
        rcases this with rfl | rfl | rfl | rfl | rfl | rfl | rfl <;> decide
      generalize b % 128 * 128 ^ i = X at *
      split
      · have := rv_bound t (i + 1) (n + X) ht (by omega) (by omega) (by omega)
        rw [List.length_cons]
        omega
      · split
        · simp; omega
        · simp only [List.length_cons]; omega
    · rw [if_neg h7]; simp; omega

def rvx (s : ByteArray) (o : Int) : Int × Int := rv (bytesOf (s.extract o.toNat s.size)) 0 0
theorem rvx_bound (s : ByteArray) (o : Int) (h0 : 0 ≤ o) (h1 : o ≤ (s.size : Int)) : 0 ≤ (rvx s o).1 ∧ (rvx s o).1 < 562949953421312 ∧ 0 ≤ (rvx s o).2 ∧ o + (rvx s o).2 ≤ (s.size : Int) ∧ (rvx s o).2 ≤ 7 := by
  have := rv_bound (bytesOf (s.extract o.toNat s.size)) 0 0 (byt_bytesOf _) (by omega) (by simp) (by omega)
  have e : (bytesOf (s.extract o.toNat s.size)).length = s.size - o.toNat := by rw [bytesOf_length, ByteArray.size_extract]; omega
  rw [e] at this
  unfold rvx
  omega
theorem extract_all (s : ByteArray) : s.extract 0 s.size = s := bytesOf_inj (by rw [bytesOf_extract, List.drop_zero, List.take_of_length_le (by rw [bytesOf_length]; omega)])
theorem extract_rest (s : ByteArray) (a b : Nat) (ha : a ≤ s.size) : (s.extract a s.size).extract b (s.extract a s.size).size = s.extract (a + b) s.size := bytesOf_inj (by
  have e : (s.extract a s.size).size = s.size - a := by rw [ByteArray.size_extract]; omega
  rw [bytesOf_extract, bytesOf_extract, bytesOf_extract, e]
  have e2 : (bytesOf s).take s.size = bytesOf s := List.take_of_length_le (by rw [bytesOf_length]; omega)
  rw [e2, List.take_of_length_le (by rw [List.length_drop, bytesOf_length]; omega), List.drop_drop])

/-! ReadRec -/
def recZ : Int × Int × Int × Int × ByteArray × Bool := (0, 0, 0, 0, (⟨#[]⟩ : ByteArray), false)
def readRecM (s : ByteArray) : Int × Int × Int × Int × ByteArray × Bool :=
  if s.size = 0 then recZ else if (rvx s 1).2 = 0 then recZ else if (rvx s (1 + (rvx s 1).2)).2 = 0 then recZ else
  if (rvx s (1 + (rvx s 1).2 + (rvx s (1 + (rvx s 1).2)).2)).2 = 0 then recZ else
  if showRecM (bt s 0) (rvx s 1).1 (rvx s (1 + (rvx s 1).2)).1 ((rvx s (1 + (rvx s 1).2 + (rvx s (1 + (rvx s 1).2)).2)).1 - 1) (s.extract (1 + (rvx s 1).2 + (rvx s (1 + (rvx s 1).2)).2 + (rvx s (1 + (rvx s 1).2 + (rvx s (1 + (rvx s 1).2)).2)).2).toNat s.size) = bytesOf s then
    (bt s 0, (rvx s 1).1, (rvx s (1 + (rvx s 1).2)).1, (rvx s (1 + (rvx s 1).2 + (rvx s (1 + (rvx s 1).2)).2)).1 - 1, s.extract (1 + (rvx s 1).2 + (rvx s (1 + (rvx s 1).2)).2 + (rvx s (1 + (rvx s 1).2 + (rvx s (1 + (rvx s 1).2)).2)).2).toNat s.size, true)
  else recZ
theorem showRecM_length (k t i v : Int) (d : ByteArray) : (showRecM k t i v d).length ≤ 922 := by
  unfold showRecM
  split
  · rename_i h
    have := rec_small h
    have l1 := varM_length t
    have l2 := varM_length i
    have l3 := varM_length (v + 1)
    simp only [List.length_append, List.length_cons, List.length_nil, bytesOf_length]
    omega
  · simp
theorem showRec_text (k t i v : Int) (d s : ByteArray) : (strOfNums (showRecM k t i v d)).toList = s.toList ↔ showRecM k t i v d = bytesOf s := by
  rw [toList_eq_iff]
  constructor
  · rintro rfl; rw [bytesOf_strOfNums (showRecM_byt _ _ _ _ _)]
  · intro h; rw [h, strOfNums_bytesOf]
theorem spec_ReadRec_f (s : ByteArray) (hs : s.size ≤ 140737488351232) (k : Nat) (hk : 310 ≤ k) : spec_ReadRec.f k s = some (readRecM s) := by
  obtain ⟨k, rfl⟩ : ∃ m, k = m + 1 := ⟨k - 1, by omega⟩
  unfold spec_ReadRec.f
  by_cases h0 : s.size = 0
  · rw [if_pos (by omega)]
    simp only [spec_ReadRec.j0, readRecM, if_pos h0]; rfl
  · rw [if_neg (by omega)]
    simp only [spec_ReadRec.j0, decide_eq_true_eq]
    by_cases h1 : (s.size : Int) > 2000
    · rw [if_pos h1]
      unfold readRecM
      have h2 : ∀ k t i v d, ¬ showRecM k t i v d = bytesOf s := fun k t i v d h => by
        have := showRecM_length k t i v d
        rw [h, bytesOf_length] at this
        omega
      rw [if_neg (h2 _ _ _ _ _)]
      simp only [ite_self]; rfl
    · have hb0 := bt_range s 0
      rw [if_neg h1, if_pos (by omega), if_pos (by omega), spec_ReadVar_f _ _ (by omega)]
      simp only [Option.bind_some]
      unfold readRecM
      rw [if_neg h0, show rv (bytesOf (s.extract 1 s.size)) 0 0 = rvx s 1 from rfl]
      have B1 := rvx_bound s 1 (by omega) (by omega)
      generalize rvx s 1 = p1 at *
      rw [w64 (n := 1 + p1.2) (by omega) (by omega), if_pos (by omega), if_pos (by omega), spec_ReadVar_f _ _ (by omega)]
      simp only [Option.bind_some]
      rw [show rv (bytesOf (s.extract (1 + p1.2).toNat s.size)) 0 0 = rvx s (1 + p1.2) from rfl]
      have B2 := rvx_bound s (1 + p1.2) (by omega) (by omega)
      generalize rvx s (1 + p1.2) = p2 at *
      rw [w64 (n := 1 + p1.2 + p2.2) (by omega) (by omega), if_pos (by omega), if_pos (by omega), spec_ReadVar_f _ _ (by omega)]
      simp only [Option.bind_some]
      rw [show rv (bytesOf (s.extract (1 + p1.2 + p2.2).toNat s.size)) 0 0 = rvx s (1 + p1.2 + p2.2) from rfl]
      have B3 := rvx_bound s (1 + p1.2 + p2.2) (by omega) (by omega)
      generalize rvx s (1 + p1.2 + p2.2) = p3 at *
      rw [w64 (n := 1 + p1.2 + p2.2 + p3.2) (by omega) (by omega), if_pos (by omega), if_pos (by omega)]
      by_cases z1 : p1.2 = 0
      · rw [if_pos z1, if_pos z1]; rfl
      · rw [if_neg z1, if_neg z1]
        by_cases z2 : p2.2 = 0
        · rw [if_pos z2, if_pos z2]; rfl
        · rw [if_neg z2, if_neg z2]
          by_cases z3 : p3.2 = 0
          · rw [if_pos z3, if_pos z3]; rfl
          · rw [if_neg z3, if_neg z3, w64 (n := bt s 0) (by omega) (by omega), w64 (n := p3.1 - 1) (by omega) (by omega), spec_ShowRec_f _ _ _ _ _ _ (by omega)]
            simp only [Option.bind_some, showRec_text]
            split <;> rfl
theorem impl_num_no (s : ByteArray) (k : Nat) (hk : 301 ≤ k) (hs : s.size ≤ 140737488351232) : impl_reader_num.f k s false = some (0, s, false) := by
  unfold impl_reader_num.f
  rw [impl_ReadVar_f _ _ (by omega)]
  simp
theorem impl_num_yes (s : ByteArray) (o : Int) (k : Nat) (hk : 301 ≤ k) (hs : s.size ≤ 140737488351232) (h0 : 0 ≤ o) (h1 : o ≤ (s.size : Int)) : impl_reader_num.f k (s.extract o.toNat s.size) true =
    some (if (rvx s o).2 = 0 then (0, s.extract o.toNat s.size, false) else ((rvx s o).1, s.extract (o + (rvx s o).2).toNat s.size, true)) := by
  have e : (s.extract o.toNat s.size).size = s.size - o.toNat := by rw [ByteArray.size_extract]; omega
  unfold impl_reader_num.f
  rw [impl_ReadVar_f _ _ (by omega)]
  simp only [Option.bind_some]
  rw [if_pos trivial]
  have B := rvx_bound s o h0 h1
  rw [show rv (bytesOf (s.extract o.toNat s.size)) 0 0 = rvx s o from rfl]
  generalize rvx s o = p at *
  by_cases h : p.2 = 0
  · rw [if_neg (by omega), if_pos h]; simp; omega
  · rw [if_pos (by omega), if_pos (by omega), if_pos (by rw [e]; omega), if_neg h, extract_rest _ _ _ (by omega), show (o + p.2).toNat = o.toNat + p.2.toNat by omega]
    simp; omega
theorem impl_ReadRec_f (s : ByteArray) (hs : s.size ≤ 140737488351232) (k : Nat) (hk : 310 ≤ k) : impl_ReadRec.f k s = some (readRecM s) := by
  unfold impl_ReadRec.f impl_reader_kind.f impl_reader_bytes.f
  rw [if_pos rfl]
  by_cases h0 : s.size = 0
  · rw [if_pos (by omega)]
    simp only [Option.bind_some]
    rw [if_pos (show (⟨#[]⟩ : ByteArray).toList = [] by rw [ByteArray.toList_eq])]
    simp only [Option.bind_some]
    rw [impl_num_no s k (by omega) hs]
    simp only [Option.bind_some]
    rw [impl_num_no s k (by omega) hs]
    simp only [Option.bind_some]
    rw [impl_num_no s k (by omega) hs]
    simp only [Option.bind_some, readRecM, if_pos h0]
    rfl
  · have hb0 := bt_range s 0
    have e1 : (s.extract 0 (1 : Int).toNat).size = 1 := by rw [ByteArray.size_extract]; omega
    have e2 : bt (s.extract 0 (1 : Int).toNat) 0 = bt s 0 := by
      have h1 := bt_get (s := s.extract 0 (1 : Int).toNat) (i := 0) (by omega) (by omega)
      have h2 := bt_get (s := s) (i := 0) (by omega) (by omega)
      rw [bytesOf_extract, List.drop_zero, List.getElem?_take_of_lt (by decide)] at h1
      exact Option.some.inj (h1.symm.trans h2)
    rw [if_neg (by omega), if_pos (by omega), if_pos (by omega)]
    simp only [Option.bind_some]
    rw [if_neg (fun h => by
      rw [ByteArray.toList_eq] at h
      have := congrArg List.length h
      rw [Array.length_toList] at this
      have e3 : (s.extract 0 (1 : Int).toNat).size = (s.extract 0 (1 : Int).toNat).data.size := rfl
      simp only [List.length_nil] at this
      omega), if_pos (by omega)]
    simp only [Option.bind_some]
    rw [e2, w64 (n := bt s 0) (by omega) (by omega)]
    unfold readRecM
    rw [if_neg h0, impl_num_yes s 1 k (by omega) hs (by omega) (by omega)]
    simp only [Option.bind_some]
    have B1 := rvx_bound s 1 (by omega) (by omega)
    generalize rvx s 1 = p1 at *
    by_cases z1 : p1.2 = 0
    · rw [if_pos z1, if_pos z1]
      have e4 : (s.extract (1 : Int).toNat s.size).size ≤ 140737488351232 := by rw [ByteArray.size_extract]; omega
      rw [impl_num_no _ k (by omega) e4]
      simp only [Option.bind_some]
      rw [impl_num_no _ k (by omega) e4]
      rfl
    · rw [if_neg z1, if_neg z1]
      simp only []
      rw [impl_num_yes s (1 + p1.2) k (by omega) hs (by omega) (by omega)]
      simp only [Option.bind_some]
      have B2 := rvx_bound s (1 + p1.2) (by omega) (by omega)
      generalize rvx s (1 + p1.2) = p2 at *
      by_cases z2 : p2.2 = 0
      · rw [if_pos z2, if_pos z2]
        have e4 : (s.extract (1 + p1.2).toNat s.size).size ≤ 140737488351232 := by rw [ByteArray.size_extract]; omega
        rw [impl_num_no _ k (by omega) e4]
        rfl
      · rw [if_neg z2, if_neg z2]
        simp only []
        rw [impl_num_yes s (1 + p1.2 + p2.2) k (by omega) hs (by omega) (by omega)]
        simp only [Option.bind_some]
        have B3 := rvx_bound s (1 + p1.2 + p2.2) (by omega) (by omega)
        generalize rvx s (1 + p1.2 + p2.2) = p3 at *
        by_cases z3 : p3.2 = 0
        · rw [if_pos z3, if_pos z3]; rfl
        · rw [if_neg z3, if_neg z3]
          simp only []
          rw [if_pos trivial, w64 (n := p3.1 - 1) (by omega) (by omega), impl_ShowRec_f _ _ _ _ _ _ (by omega)]
          simp only [Option.bind_some, showRec_text]
          split <;> rfl

/-! marks -/
def mT (n : Int) : ByteArray := strOfNums (109 :: decN n.toNat)
theorem str109 : (⟨#[109]⟩ : ByteArray) = strOfNums [109] := by decide

theorem laws_markText_loop : ∀ (d k n : Nat) (l : List Int), n < 10 ^ d → (0 < n → True) → n ≤ 4611686018427387904 → l.length + d < 90 → d < k →
    laws_markText.l0 k (n : Int) (strOfNums l) = some (strOfNums (109 :: ((if n = 0 then [] else decN n) ++ l))) := by
  intro d
  induction d with
  | zero =>
    intro k n l n1 _ hd hl hk
    obtain ⟨q, rfl⟩ : ∃ m, k = m + 1 := ⟨k - 1, by omega⟩
    have hn : n = 0 := by omega
    simp only [laws_markText.l0]
    rw [if_neg (by omega), if_pos (by rw [size_strOfNums]; omega), if_pos hn, str109, strOfNums_append]; rfl
  | succ d ih =>
    intro k n l n1 _ hd hl hk
    obtain ⟨q, rfl⟩ : ∃ m, k = m + 1 := ⟨k - 1, by omega⟩
    by_cases h0 : n = 0
    · simp only [laws_markText.l0]
      rw [if_neg (by omega), if_pos (by rw [size_strOfNums]; omega), if_pos h0, str109, strOfNums_append]; rfl
    · simp only [laws_markText.l0]
      rw [if_pos (by omega), tmod_nn (by omega), tdiv_nn (by omega), w64 (n := 48 + (n : Int) % 10) (by omega) (by omega), w64 (n := (n : Int) / 10) (by omega) (by omega)]
      simp only [Option.bind_some]
      rw [if_pos (by rw [size_strOfNums, size_strOfNums]; simp; omega), strOfNums_append, show (n : Int) / 10 = ((n / 10 : Nat) : Int) by omega, ih q (n / 10) _ (by rw [pow10] at n1; omega) (fun _ => trivial) (by omega) (by simp; omega) (by omega), if_neg h0]
      by_cases h : n < 10
      · rw [if_pos (by omega), decN_lt h, show (48 + (n : Int) % 10) % 256 = 48 + (n : Int) by omega]; simp
      · rw [if_neg (by omega), decN_ge h, show (48 + (n : Int) % 10) % 256 = 48 + ((n % 10 : Nat) : Int) by omega]; simp

theorem laws_markText_f (n : Int) (h0 : 0 < n) (h1 : n ≤ 4611686018427387904) (k : Nat) (hk : 30 < k) : laws_markText.f k n = some (mT n) := by
  unfold laws_markText.f
  rw [if_neg (by omega)]
  have := laws_markText_loop 19 k n.toNat [] (by omega) (fun _ => trivial) (by omega) (by simp) (by omega)
  rw [show ((n.toNat : Nat) : Int) = n by omega] at this
  rw [show (⟨#[]⟩ : ByteArray) = strOfNums [] from rfl, this, if_neg (by omega)]; simp [mT]

theorem rdA51 (a : List S51) (x : S51) (b : List S51) : rd_T51 (a ++ x :: b) (a.length : Int) = x := by simp [rd_T51, List.getD]
theorem setA51 (a : List S51) (x y : S51) (b : List S51) : (a ++ x :: b).set ((a.length : Int)).toNat y = a ++ y :: b := by
  rw [show ((a.length : Int)).toNat = a.length by omega, List.set_append_right _ _ (Nat.le_refl _), Nat.sub_self, List.set_cons_zero]
theorem laws_eqEntry_f (a0 : Int) (a1 : ByteArray) : laws_eqEntry.f a0 a1 a0 a1 = some true := by unfold laws_eqEntry.f; simp
theorem laws_eqEntryS_run (l : List S51) (hl : l.length ≤ 1099511627776) : ∀ (d k : Nat) (i : Int), 0 ≤ i → i + d = l.length → d < k → laws_eqEntryS.l0 k l l i = some true := by
  intro d
  induction d with
  | zero =>
    intro k i h0 h1 hk
    obtain ⟨q, rfl⟩ : ∃ m, k = m + 1 := ⟨k - 1, by omega⟩
    simp only [laws_eqEntryS.l0]; rw [if_neg (by omega)]
  | succ d ih =>
    intro k i h0 h1 hk
    obtain ⟨q, rfl⟩ : ∃ m, k = m + 1 := ⟨k - 1, by omega⟩
    simp only [laws_eqEntryS.l0]
    rw [if_pos (by omega), if_pos h0, if_pos (by omega), laws_eqEntry_f, w64 (n := i + 1) (by omega) (by omega)]
    simp only [Option.bind_some]
    rw [if_pos trivial, ih q (i + 1) (by omega) (by omega) (by omega)]
theorem laws_eqEntryS_f (l : List S51) (hl : l.length ≤ 1099511627776) (k : Nat) (hk : l.length < k) : laws_eqEntryS.f k l l = some true := by
  unfold laws_eqEntryS.f; rw [if_pos rfl]; exact laws_eqEntryS_run l hl l.length k 0 (by omega) (by omega) hk
def mkEntry (m : Int) : S51 := ⟨m, mT (m + 1)⟩
def marksEntry : Int → Nat → List S51
  | _, 0 => []
  | m, n + 1 => mkEntry m :: marksEntry (m + 1 + 1) n
theorem marksEntry_length : ∀ (n : Nat) (m : Int), (marksEntry m n).length = n
  | 0, _ => rfl
  | n + 1, m => by simp [marksEntry, marksEntry_length n]
theorem laws_markEntryS_run : ∀ (b a : List S51) (k : Nat) (m : Int), 0 < m → m + 2 * b.length ≤ 1099511627776 → a.length + b.length ≤ 1099511627776 → b.length + 40 < k →
    laws_markEntryS.l0 k (a ++ b) m (a.length : Int) = some (m + 2 * b.length, a ++ marksEntry m b.length) := by
  intro b
  induction b with
  | nil =>
    intro a k m h0 h1 h2 hk
    obtain ⟨q, rfl⟩ : ∃ m, k = m + 1 := ⟨k - 1, by omega⟩
    simp only [laws_markEntryS.l0]; rw [if_neg (by simp)]; simp [marksEntry]
  | cons x b ih =>
    intro a k m h0 h1 h2 hk
    simp only [List.length_cons] at h1 h2 hk
    obtain ⟨q, rfl⟩ : ∃ m, k = m + 1 := ⟨k - 1, by omega⟩
    have e1 : wrap64 (m + 1) = m + 1 := w64 (by omega) (by omega)
    have e2 : wrap64 (m + 1 + 1) = m + 1 + 1 := w64 (by omega) (by omega)
    have t1 := laws_markText_f (m + 1) (by omega) (by omega) q (by omega)
    simp only [laws_markEntryS.l0]
    rw [if_pos (by simp; omega)]
    rw [if_pos (by omega), w64 (n := (a.length : Int) + 1) (by omega) (by omega)]
    simp only [e1, e2, t1, Option.bind_some, setA51, rdA51]
    have f := ih (a ++ [mkEntry m]) q (m + 1 + 1) (by omega) (by omega) (by simp; omega) (by omega)
    rw [List.append_assoc, List.singleton_append, show (((a ++ [mkEntry m]).length : Nat) : Int) = (a.length : Int) + 1 by simp] at f
    refine Eq.trans f ?_
    simp [marksEntry]; omega
theorem laws_markEntryS_f (l : List S51) (m : Int) (h0 : 0 < m) (h1 : m + 2 * l.length ≤ 1099511627776) (k : Nat) (hk : l.length + 40 < k) : laws_markEntryS.f k l m = some (m + 2 * l.length, marksEntry m l.length) := by
  unfold laws_markEntryS.f
  have := laws_markEntryS_run l [] k m h0 h1 (by simp; omega) hk
  simpa using this
theorem laws_heldEntryS_run : ∀ (n : Nat) (a : List S51) (k : Nat) (m : Int), 0 < m → m + 2 * n ≤ 1099511627776 → a.length + n ≤ 1099511627776 → n + 40 < k →
    laws_heldEntryS.l0 k (a ++ marksEntry m n) m (a.length : Int) = some (m + 2 * n) := by
  intro n
  induction n with
  | zero =>
    intro a k m h0 h1 h2 hk
    obtain ⟨q, rfl⟩ : ∃ m, k = m + 1 := ⟨k - 1, by omega⟩
    simp only [laws_heldEntryS.l0]; rw [if_neg (by simp [marksEntry])]; simp
  | succ n ih =>
    intro a k m h0 h1 h2 hk
    obtain ⟨q, rfl⟩ : ∃ m, k = m + 1 := ⟨k - 1, by omega⟩
    have e1 : wrap64 (m + 1) = m + 1 := w64 (by omega) (by omega)
    have e2 : wrap64 (m + 1 + 1) = m + 1 + 1 := w64 (by omega) (by omega)
    have t1 := laws_markText_f (m + 1) (by omega) (by omega) q (by omega)
    have f := ih (a ++ [mkEntry m]) q (m + 1 + 1) (by omega) (by omega) (by simp; omega) (by omega)
    rw [List.append_assoc, List.singleton_append, show (((a ++ [mkEntry m]).length : Nat) : Int) = (a.length : Int) + 1 by simp] at f
    have hl : (a ++ marksEntry m (n + 1)).length = a.length + (n + 1) := by rw [List.length_append, marksEntry_length]
    simp only [laws_heldEntryS.l0]
    rw [if_pos (by rw [hl]; omega), if_pos (by omega), w64 (n := (a.length : Int) + 1) (by omega) (by omega), marksEntry]
    simp only [e1, e2, t1, Option.bind_some, rdA51, mkEntry, if_true]
    refine Eq.trans f ?_
    congr 1; omega
theorem laws_heldEntryS_f (n : Nat) (m : Int) (h0 : 0 < m) (h1 : m + 2 * n ≤ 1099511627776) (k : Nat) (hk : n + 40 < k) : laws_heldEntryS.f k (marksEntry m n) m = some (m + 2 * n) := by
  unfold laws_heldEntryS.f
  have := laws_heldEntryS_run n [] k m h0 h1 (by simp; omega) hk
  simpa using this

/-! WalOk -/
def termsM : Int → Int → List S51 → Bool
  | _, _, [] => true
  | low, hi, e :: r => decide (1 ≤ e.f0 ∧ low ≤ e.f0 ∧ e.f0 ≤ hi ∧ e.f1.size ≤ 900) && termsM e.f0 hi r
def walOkM (t v b bt : Int) (l : List S51) : Bool := decide (0 ≤ t ∧ t ≤ 100000 ∧ -1 ≤ v ∧ v ≤ 4 ∧ placeM b bt = true ∧ bt ≤ t ∧ l.length ≤ 60 ∧ b + l.length ≤ 100000) && termsM bt t l

theorem spec_WalOk_run (t v bs bt : Int) : ∀ (b a : List S51) (k : Nat) (low : Int), a.length + b.length ≤ 1048576 → b.length < k →
    spec_WalOk.l0 k low (a.length : Int) t v bs bt (a ++ b) = some (termsM low t b) := by
  intro b
  induction b with
  | nil =>
    intro a k low h0 hk
    obtain ⟨q, rfl⟩ : ∃ m, k = m + 1 := ⟨k - 1, by omega⟩
    simp only [spec_WalOk.l0]; rw [if_neg (by simp)]; rfl
  | cons x b ih =>
    intro a k low h0 hk
    simp only [List.length_cons] at h0 hk
    obtain ⟨q, rfl⟩ : ∃ m, k = m + 1 := ⟨k - 1, by omega⟩
    have f := ih (a ++ [x]) q x.f0 (by simp; omega) (by omega)
    rw [List.append_assoc, List.singleton_append, show (((a ++ [x]).length : Nat) : Int) = (a.length : Int) + 1 by simp] at f
    simp only [spec_WalOk.l0, rdA51, termsM]
    rw [if_pos (by simp; omega), if_pos (by omega), w64 (n := (a.length : Int) + 1) (by omega) (by omega), f]
    by_cases h : 1 ≤ x.f0 ∧ low ≤ x.f0 ∧ x.f0 ≤ t ∧ x.f1.size ≤ 900
    · rw [if_neg (by omega), if_neg (by omega), if_neg (by omega), if_neg (by omega), decide_eq_true h, Bool.true_and]
    · rw [decide_eq_false h, Bool.false_and]
      repeat' split
      all_goals (first | rfl | (exfalso; omega))

theorem spec_WalOk_f (t v b bt : Int) (l : List S51) (hl : l.length ≤ 1048576) (k : Nat) (hk : 1048578 < k) : spec_WalOk.f k t v b bt l = some (walOkM t v b bt l) := by
  obtain ⟨q, rfl⟩ : ∃ m, k = m + 1 := ⟨k - 1, by omega⟩
  have f := spec_WalOk_run t v b bt l [] q bt (by simp; omega) (by omega)
  simp only [List.nil_append, List.length_nil] at f
  unfold spec_WalOk.f walOkM
  simp only [spec_l1In_run, spec_l5Based_run, Option.bind_some, decide_eq_true_eq, spec_WalOk.j0]
  by_cases h1 : 0 ≤ t ∧ t ≤ 100000
  · rw [if_pos h1]
    by_cases h2 : -1 ≤ v ∧ v ≤ 4
    · rw [if_pos h2]
      by_cases h3 : placeM b bt = true
      · have hb : 0 ≤ b ∧ b ≤ 100000 := by unfold placeM at h3; simp only [decide_eq_true_eq] at h3; omega
        rw [if_pos h3]
        by_cases h4 : bt > t
        · rw [if_pos h4, if_pos trivial, decide_eq_false (by omega), Bool.false_and]
        · rw [if_neg h4]
          by_cases h5 : (l.length : Int) > 60
          · rw [if_pos h5, if_pos trivial, decide_eq_false (by omega), Bool.false_and]
          · rw [if_neg h5, w64 (by omega) (by omega)]
            by_cases h6 : b + (l.length : Int) > 100000
            · rw [if_pos h6, decide_eq_false (by omega), Bool.false_and]
            · rw [if_neg h6, decide_eq_true ⟨h1.1, h1.2, h2.1, h2.2, h3, by omega, by omega, by omega⟩, Bool.true_and]
              exact f
      · rw [if_neg h3, if_pos trivial, decide_eq_false (fun g => h3 g.2.2.2.2.1), Bool.false_and]
    · rw [if_neg h2, if_pos trivial, decide_eq_false (fun g => h2 ⟨g.2.2.1, g.2.2.2.1⟩), Bool.false_and]
  · rw [if_neg h1, if_pos trivial, decide_eq_false (fun g => h1 ⟨g.1, g.2.1⟩), Bool.false_and]

theorem impl_termsOk_run (hi : Int) : ∀ (b a : List S51) (k : Nat) (low : Int), a.length + b.length ≤ 1048576 → b.length < k →
    impl_termsOk.l0 k low hi (a ++ b) ((a ++ b).length : Int) (a.length : Int) = some (termsM low hi b) := by
  intro b
  induction b with
  | nil =>
    intro a k low h0 hk
    obtain ⟨q, rfl⟩ : ∃ m, k = m + 1 := ⟨k - 1, by omega⟩
    simp only [impl_termsOk.l0]; rw [if_neg (by simp)]; rfl
  | cons x b ih =>
    intro a k low h0 hk
    simp only [List.length_cons] at h0 hk
    obtain ⟨q, rfl⟩ : ∃ m, k = m + 1 := ⟨k - 1, by omega⟩
    have f := ih (a ++ [x]) q x.f0 (by simp; omega) (by omega)
    rw [List.append_assoc, List.singleton_append, show (((a ++ [x]).length : Nat) : Int) = (a.length : Int) + 1 by simp] at f
    simp only [impl_termsOk.l0, rdA51, termsM, impl_from_run, Option.bind_some, decide_eq_true_eq]
    rw [if_pos (by simp; omega), if_pos (by omega), if_pos (by simp; omega), w64 (n := (a.length : Int) + 1) (by omega) (by omega), f]
    by_cases h : 1 ≤ x.f0 ∧ low ≤ x.f0 ∧ x.f0 ≤ hi ∧ x.f1.size ≤ 900
    · rw [if_neg (by omega), if_pos (by omega), if_neg (by omega), decide_eq_true h, Bool.true_and]
    · rw [decide_eq_false h, Bool.false_and]
      repeat' split
      all_goals (first | rfl | (exfalso; omega))
theorem impl_WalOk_f (t v b bt : Int) (l : List S51) (hl : l.length ≤ 1048576) (k : Nat) (hk : 1048578 < k) : impl_WalOk.f k t v b bt l = some (walOkM t v b bt l) := by
  have f := impl_termsOk_run t l [] k bt (by simp; omega) (by omega)
  simp only [List.nil_append, List.length_nil] at f
  unfold impl_WalOk.f walOkM impl_termsOk.f
  rw [show ((0 : Nat) : Int) = 0 from rfl] at f
  simp only [impl_from_run, impl_isVote_run, impl_isPlace_run, Option.bind_some, decide_eq_true_eq, f]
  by_cases h1 : 0 ≤ t ∧ t ≤ 100000
  · rw [if_pos h1]
    by_cases h2 : -1 ≤ v ∧ v ≤ 4
    · rw [if_pos h2]
      by_cases h3 : placeM b bt = true
      · have hb : 0 ≤ b ∧ b ≤ 100000 := by unfold placeM at h3; simp only [decide_eq_true_eq] at h3; omega
        rw [if_pos h3]
        by_cases h4 : bt ≤ t
        · rw [if_pos h4]
          by_cases h5 : (l.length : Int) ≤ 60
          · rw [if_pos h5, w64 (by omega) (by omega)]
            by_cases h6 : b + (l.length : Int) ≤ 100000
            · rw [decide_eq_true h6, decide_eq_true ⟨h1.1, h1.2, h2.1, h2.2, h3, h4, by omega, h6⟩, Bool.true_and]
              cases termsM bt t l <;> simp
            · rw [decide_eq_false h6, decide_eq_false (fun g => h6 g.2.2.2.2.2.2.2), Bool.false_and]
              cases termsM bt t l <;> simp
          · rw [if_neg h5, decide_eq_false (by omega), Bool.false_and]
        · rw [if_neg h4, decide_eq_false (by omega), Bool.false_and]
      · rw [if_neg h3, decide_eq_false (fun g => h3 g.2.2.2.2.1), Bool.false_and]
    · rw [if_neg h2, decide_eq_false (fun g => h2 ⟨g.2.2.1, g.2.2.2.1⟩), Bool.false_and]
  · rw [if_neg h1, decide_eq_false (fun g => h1 ⟨g.1, g.2.1⟩), Bool.false_and]

theorem laws_eqWal_f (t v b bt : Int) (l : List S51) (hl : l.length ≤ 1048576) (k : Nat) (hk : 1048577 < k) : laws_eqWal.f k t v b bt l t v b bt l = some true := by
  unfold laws_eqWal.f; rw [laws_eqEntryS_f l (by omega) k (by omega)]; simp

theorem laws_markWal_f (t v b bt : Int) (l : List S51) (m : Int) (h0 : 0 < m) (h1 : m + 2 * l.length ≤ 1099511627776) (k : Nat) (hk : l.length + 40 < k) : laws_markWal.f k t v b bt l m = some (m + 2 * l.length, marksEntry m l.length) := by
  unfold laws_markWal.f; rw [laws_markEntryS_f l m h0 h1 k hk]; rfl

/-! WalStep -/
def hardFitM (t v t' v' : Int) : Bool := decide (t < t' ∨ (t' = t ∧ (v = -1 ∨ v = v')))
theorem impl_hardFits_run (t v b bt : Int) (l : List S51) (t' v' : Int) : impl_hardFits.f t v b bt l t' v' = some (hardFitM t v t' v') := by
  unfold impl_hardFits.f hardFitM
  repeat' split
  all_goals (congr 1; rw [Bool.eq_iff_iff]; simp only [decide_eq_true_eq, beq_iff_eq, true_iff, Bool.false_eq_true, false_iff]; omega)
theorem walOkM_len {t v b bt : Int} {l : List S51} (h : walOkM t v b bt l = true) : l.length ≤ 60 ∧ 0 ≤ b ∧ b ≤ 100000 := by
  unfold walOkM at h
  simp only [Bool.and_eq_true, decide_eq_true_eq] at h
  have h3 := h.1.2.2.2.2.1
  unfold placeM at h3; simp only [decide_eq_true_eq] at h3; omega
def lastM (bt : Int) (l : List S51) : Int := if (l.length : Int) = 0 then bt else (rd_T51 l ((l.length : Int) - 1)).f0
theorem impl_lastTerm_run (t v b bt : Int) (l : List S51) (hl : l.length ≤ 60) : impl_lastTerm.f t v b bt l = some (lastM bt l) := by
  unfold impl_lastTerm.f lastM
  by_cases h : (l.length : Int) = 0
  · rw [if_pos h, if_pos h]
  · rw [if_neg h, if_neg h, w64 (n := (l.length : Int) - 1) (by omega) (by omega), if_pos (by omega), if_pos (by omega)]
theorem spec_lastTerm_run (t v b bt : Int) (l : List S51) (hl : l.length ≤ 60) : spec_l5LastTerm.f t v b bt l = some (lastM bt l) := by
  unfold spec_l5LastTerm.f lastM
  by_cases h : (l.length : Int) = 0
  · rw [if_pos h, if_pos h]
  · rw [if_neg h, if_neg h, w64 (n := (l.length : Int) - 1) (by omega) (by omega), if_pos (by omega), if_pos (by omega)]
def fitM (t v b bt : Int) (l : List S51) (c t' i v' : Int) : Bool :=
  if c = 1 then hardFitM t v t' v' else if c = 2 then decide (i = b + (l.length : Int) + 1 ∧ (l.length : Int) < 60 ∧ lastM bt l ≤ t' ∧ t' ≤ t) else if c = 3 then decide (b < i ∧ i ≤ b + (l.length : Int)) else false
def applyM (t v b bt : Int) (l : List S51) (c t' i v' : Int) (d : ByteArray) : Int × Int × Int × Int × List S51 × Bool :=
  if c = 1 then (t', v', b, bt, l, true) else if c = 2 then (t, v, b, bt, l ++ [⟨t', d⟩], true) else (t, v, b, bt, l.take (i - b - 1).toNat, true)
def stepM (t v b bt : Int) (l : List S51) (c t' i v' : Int) (d : ByteArray) : Int × Int × Int × Int × List S51 × Bool :=
  if walOkM t v b bt l = true then
    if recOkM c t' i v' d.size = true ∧ fitM t v b bt l c t' i v' = true then applyM t v b bt l c t' i v' d else (t, v, b, bt, l, false)
  else (0, 0, 0, 0, [], false)
theorem stepM_length (t v b bt : Int) (l : List S51) (c t' i v' : Int) (d : ByteArray) : (stepM t v b bt l c t' i v' d).2.2.2.2.1.length ≤ 61 := by
  unfold stepM
  split
  · rename_i h
    have := (walOkM_len h).1
    split
    · unfold applyM
      split
      · simp only; omega
      · split
        · simp; omega
        · simp only [List.length_take]; omega
    · simp only; omega
  · simp
theorem spec_Fits_run (t v b bt : Int) (l : List S51) (h : walOkM t v b bt l = true) (c t' i v' : Int) (d : ByteArray) : spec_l5Fits.f t v b bt l c t' i v' d = some (fitM t v b bt l c t' i v') := by
  obtain ⟨n1, b0, b1⟩ := walOkM_len h
  unfold spec_l5Fits.f fitM
  by_cases h1 : c = 1
  · rw [if_pos h1, if_pos h1]
    unfold hardFitM
    repeat' split
    all_goals (congr 1; rw [Bool.eq_iff_iff]; simp only [decide_eq_true_eq, beq_iff_eq, true_iff, Bool.false_eq_true, false_iff]; omega)
  · rw [if_neg h1, if_neg h1]
    rw [w64 (n := b + (l.length : Int)) (by omega) (by omega), w64 (n := b + (l.length : Int) + 1) (by omega) (by omega), spec_lastTerm_run _ _ _ _ _ n1]
    simp only [Option.bind_some]
    repeat' split
    all_goals (first | (exfalso; omega) | rfl | (congr 1; rw [Bool.eq_iff_iff]; simp only [decide_eq_true_eq, Bool.false_eq_true, false_iff, true_iff]; omega))
theorem spec_WalStep_f (t v b bt : Int) (l : List S51) (hl : l.length ≤ 1048576) (c t' i v' : Int) (d : ByteArray) (k : Nat) (hk : 1048580 < k) : spec_WalStep.f k t v b bt l c t' i v' d = some (stepM t v b bt l c t' i v' d) := by
  unfold spec_WalStep.f stepM
  rw [spec_WalOk_f _ _ _ _ _ hl _ (by omega)]
  simp only [Option.bind_some]
  by_cases h : walOkM t v b bt l = true
  · obtain ⟨n1, b0, b1⟩ := walOkM_len h
    rw [if_pos h, if_pos h]
    have hc : spec_l5Copy.f t v b bt l = some (t, v, b, bt, l) := by
      unfold spec_l5Copy.f
      simp only [Option.bind_some]
      rw [if_pos (by simp; omega), List.nil_append]
    rw [hc, spec_RecOk_run]; simp only [Option.bind_some]
    obtain ⟨q, rfl⟩ : ∃ m, k = m + 1 := ⟨k - 1, by omega⟩
    by_cases hr : recOkM c t' i v' d.size = true
    · rw [if_pos hr, spec_Fits_run _ _ _ _ _ h]; simp only [Option.bind_some, spec_WalStep.j0]
      by_cases hf : fitM t v b bt l c t' i v' = true
      · have hg : recOkM c t' i v' d.size = true ∧ fitM t v b bt l c t' i v' = true := ⟨hr, hf⟩
        rw [if_neg (by rw [hf]; decide), if_pos hg]
        unfold applyM
        by_cases c1 : c = 1
        · rw [if_pos c1, if_pos c1]
        · rw [if_neg c1, if_neg c1]
          by_cases c2 : c = 2
          · rw [if_pos c2, if_pos c2, if_pos (by omega)]
          · rw [if_neg c2, if_neg c2]
            unfold fitM at hf
            rw [if_neg c1, if_neg c2] at hf
            by_cases c3 : c = 3
            · rw [if_pos c3, decide_eq_true_eq] at hf
              rw [w64 (n := i - b) (by omega) (by omega), w64 (n := i - b - 1) (by omega) (by omega), if_pos (by omega), if_pos (by omega)]
            · rw [if_neg c3] at hf; exact absurd hf (by decide)
      · have hg : ¬ (recOkM c t' i v' d.size = true ∧ fitM t v b bt l c t' i v' = true) := fun g => hf g.2
        rw [if_pos (show (!fitM t v b bt l c t' i v') = true by simpa using hf), if_neg hg]
    · have hg : ¬ (recOkM c t' i v' d.size = true ∧ fitM t v b bt l c t' i v' = true) := fun g => hr g.1
      rw [if_neg hr, if_neg hg]; simp only [spec_WalStep.j0]; rw [if_pos trivial]
  · rw [if_neg h, if_neg h]
theorem impl_WalStep_f (t v b bt : Int) (l : List S51) (hl : l.length ≤ 1048576) (c t' i v' : Int) (d : ByteArray) (k : Nat) (hk : 1048580 < k) : impl_WalStep.f k t v b bt l c t' i v' d = some (stepM t v b bt l c t' i v' d) := by
  unfold impl_WalStep.f stepM
  rw [impl_WalOk_f _ _ _ _ _ hl _ (by omega)]
  simp only [Option.bind_some]
  by_cases h : walOkM t v b bt l = true
  · obtain ⟨n1, b0, b1⟩ := walOkM_len h
    rw [if_pos h, if_pos h]
    have hc : impl_copyWal.f t v b bt l = some (t, v, b, bt, l) := by
      unfold impl_copyWal.f impl_Entry.f
      rw [if_pos (by omega)]; rfl
    rw [hc, impl_RecOk_run]; simp only [Option.bind_some]
    rw [w64 (n := b + (l.length : Int)) (by omega) (by omega), impl_hardFits_run]; simp only [Option.bind_some]
    obtain ⟨p, rfl⟩ : ∃ m, k = m + 1 := ⟨k - 1, by omega⟩
    obtain ⟨q, rfl⟩ : ∃ m, p = m + 1 := ⟨p - 1, by omega⟩
    by_cases hr : recOkM c t' i v' d.size = true
    · rw [if_pos hr]
      unfold fitM applyM
      by_cases c1 : c = 1
      · rw [if_pos c1, if_pos c1, if_pos c1]
        simp only [impl_WalStep.j0]
        by_cases hf : hardFitM t v t' v' = true
        · have hg : recOkM c t' i v' d.size = true ∧ hardFitM t v t' v' = true := ⟨hr, hf⟩
          rw [if_pos hf, if_pos hg]
        · have hg : ¬ (recOkM c t' i v' d.size = true ∧ hardFitM t v t' v' = true) := fun g => hf g.2
          rw [if_neg hf, if_neg hg, if_neg (show ¬ c = 2 by omega)]
          simp only [impl_WalStep.j1]
          rw [if_neg (by decide), if_neg (by omega)]
      · rw [if_neg c1, if_neg c1, if_neg c1]
        simp only [impl_WalStep.j0]
        rw [if_neg (by decide)]
        by_cases c2 : c = 2
        · rw [if_pos c2, if_pos c2, if_pos c2]
          have hj : ∀ z : Bool, impl_WalStep.j1 (q + 1) (b + (l.length : Int)) z t v b bt l c t' i v' d = some (if z = true then (t, v, b, bt, l ++ [(⟨t', d⟩ : S51)], true) else (t, v, b, bt, l, false)) := by
            intro z
            simp only [impl_WalStep.j1]
            by_cases hz : z = true
            · rw [if_pos hz, if_pos hz, if_pos (by omega)]
            · rw [if_neg hz, if_neg hz, if_neg (by omega)]
          rw [w64 (n := b + (l.length : Int) + 1) (by omega) (by omega), impl_lastTerm_run _ _ _ _ _ n1]; simp only [Option.bind_some]
          have hfr : impl_from.f t' (lastM bt l) t = some (decide (lastM bt l ≤ t' ∧ t' ≤ t)) := by
            unfold impl_from.f
            split
            · congr 1; rw [Bool.eq_iff_iff]; simp only [decide_eq_true_eq]; omega
            · congr 1; rw [Bool.eq_iff_iff]; simp only [decide_eq_true_eq, Bool.false_eq_true, false_iff]; omega
          rw [hfr]; simp only [Option.bind_some, hj]
          by_cases e1 : i = b + (l.length : Int) + 1
          · rw [if_pos e1]
            by_cases e2 : (l.length : Int) < 60
            · rw [if_pos e2]
              by_cases e3 : lastM bt l ≤ t' ∧ t' ≤ t
              · have hg : (recOkM c t' i v' d.size = true ∧ decide (i = b + (l.length : Int) + 1 ∧ (l.length : Int) < 60 ∧ lastM bt l ≤ t' ∧ t' ≤ t) = true) := ⟨hr, by simp only [decide_eq_true_eq]; exact ⟨e1, e2, e3⟩⟩
                have hz : decide (lastM bt l ≤ t' ∧ t' ≤ t) = true := by simpa using e3
                rw [if_pos hz, if_pos hg]
              · have hg : ¬ (recOkM c t' i v' d.size = true ∧ decide (i = b + (l.length : Int) + 1 ∧ (l.length : Int) < 60 ∧ lastM bt l ≤ t' ∧ t' ≤ t) = true) := fun g => e3 (by have := g.2; simp only [decide_eq_true_eq] at this; exact this.2.2)
                have hz : ¬ decide (lastM bt l ≤ t' ∧ t' ≤ t) = true := by simpa using e3
                rw [if_neg hz, if_neg hg]
            · have hg : ¬ (recOkM c t' i v' d.size = true ∧ decide (i = b + (l.length : Int) + 1 ∧ (l.length : Int) < 60 ∧ lastM bt l ≤ t' ∧ t' ≤ t) = true) := fun g => e2 (by have := g.2; simp only [decide_eq_true_eq] at this; exact this.2.1)
              rw [if_neg e2, if_neg hg, if_neg (by decide)]
          · have hg : ¬ (recOkM c t' i v' d.size = true ∧ decide (i = b + (l.length : Int) + 1 ∧ (l.length : Int) < 60 ∧ lastM bt l ≤ t' ∧ t' ≤ t) = true) := fun g => e1 (by have := g.2; simp only [decide_eq_true_eq] at this; exact this.1)
            rw [if_neg e1, if_neg hg, if_neg (by decide)]
        · rw [if_neg c2, if_neg c2, if_neg c2]
          simp only [impl_WalStep.j1]
          rw [if_neg (by decide)]
          by_cases c3 : c = 3
          · have hfr : impl_from.f i (wrap64 (b + 1)) (b + (l.length : Int)) = some (decide (b < i ∧ i ≤ b + (l.length : Int))) := by
              rw [w64 (n := b + 1) (by omega) (by omega)]
              unfold impl_from.f
              split
              · congr 1; rw [Bool.eq_iff_iff]; simp only [decide_eq_true_eq]; omega
              · congr 1; rw [Bool.eq_iff_iff]; simp only [decide_eq_true_eq, Bool.false_eq_true, false_iff]; omega
            rw [if_pos c3, if_pos c3, hfr]; simp only [Option.bind_some]
            by_cases e : b < i ∧ i ≤ b + (l.length : Int)
            · have hg : (recOkM c t' i v' d.size = true ∧ decide (b < i ∧ i ≤ b + (l.length : Int)) = true) := ⟨hr, by simpa using e⟩
              have hz : decide (b < i ∧ i ≤ b + (l.length : Int)) = true := by simpa using e
              rw [if_pos hz, if_pos hg, w64 (n := i - b) (by omega) (by omega), w64 (n := i - b - 1) (by omega) (by omega), if_pos (by omega), if_pos (by omega)]
            · have hg : ¬ (recOkM c t' i v' d.size = true ∧ decide (b < i ∧ i ≤ b + (l.length : Int)) = true) := fun g => e (by simpa using g.2)
              have hz : ¬ decide (b < i ∧ i ≤ b + (l.length : Int)) = true := by simpa using e
              rw [if_neg hz, if_neg hg]
          · rw [if_neg c3, if_neg c3, if_neg (show ¬ (recOkM c t' i v' d.size = true ∧ false = true) from fun g => absurd g.2 (by decide))]
    · have hg : ¬ (recOkM c t' i v' d.size = true ∧ fitM t v b bt l c t' i v' = true) := fun g => hr g.1
      rw [if_neg hr, if_neg hg]
  · rw [if_neg h, if_neg h]
theorem laws_heldWal_f (t v b bt : Int) (n : Nat) (m : Int) (h0 : 0 < m) (h1 : m + 2 * n ≤ 1099511627776) (k : Nat) (hk : n + 40 < k) : laws_heldWal.f k t v b bt (marksEntry m n) m = some (m + 2 * n) := by
  unfold laws_heldWal.f; rw [laws_heldEntryS_f n m h0 h1 k hk]; simp only [Option.bind_some]; rw [if_neg (by omega)]

theorem unfM_size (s : ByteArray) : (unfM s).1.size ≤ s.size := by
  unfold unfM
  repeat' split
  all_goals first | exact Nat.zero_le _ | (simp only [ByteArray.size_extract]; omega)
theorem frs_size : ∀ (f : Nat) (s : ByteArray) (a : Int), ∀ x ∈ (frs f s a).1, x.size ≤ s.size
  | 0, s, a, x, hx => by simp [frs] at hx
  | f + 1, s, a, x, hx => by
    rw [frs] at hx
    split at hx
    · rcases List.mem_cons.1 hx with rfl | hx
      · have := unfM_size (s.extract a.toNat s.size)
        rw [ByteArray.size_extract] at this; omega
      · exact frs_size f s _ x hx
    · simp at hx
abbrev Wv := Int × Int × Int × Int × List S51 × Int × Bool
def repM : Int → Int → Int → Int → List S51 → Int → List ByteArray → Wv
  | t, v, b, bt, l, p, [] => (t, v, b, bt, l, p, true)
  | t, v, b, bt, l, p, x :: r =>
    if (readRecM x).2.2.2.2.2 = true ∧ (stepM t v b bt l (readRecM x).1 (readRecM x).2.1 (readRecM x).2.2.1 (readRecM x).2.2.2.1 (readRecM x).2.2.2.2.1).2.2.2.2.2 = true then
      repM (stepM t v b bt l (readRecM x).1 (readRecM x).2.1 (readRecM x).2.2.1 (readRecM x).2.2.2.1 (readRecM x).2.2.2.2.1).1 (stepM t v b bt l (readRecM x).1 (readRecM x).2.1 (readRecM x).2.2.1 (readRecM x).2.2.2.1 (readRecM x).2.2.2.2.1).2.1 (stepM t v b bt l (readRecM x).1 (readRecM x).2.1 (readRecM x).2.2.1 (readRecM x).2.2.2.1 (readRecM x).2.2.2.2.1).2.2.1 (stepM t v b bt l (readRecM x).1 (readRecM x).2.1 (readRecM x).2.2.1 (readRecM x).2.2.2.1 (readRecM x).2.2.2.2.1).2.2.2.1 (stepM t v b bt l (readRecM x).1 (readRecM x).2.1 (readRecM x).2.2.1 (readRecM x).2.2.2.1 (readRecM x).2.2.2.2.1).2.2.2.2.1 (p + 8 + (x.size : Int)) r
    else (t, v, b, bt, l, p, true)
theorem repM_len : ∀ (b : List ByteArray) (t v bs bt : Int) (l : List S51) (p : Int), l.length ≤ 61 → (repM t v bs bt l p b).2.2.2.2.1.length ≤ 61
  | [], t, v, bs, bt, l, p, h => h
  | x :: r, t, v, bs, bt, l, p, h => by
    rw [repM]
    split
    · exact repM_len r _ _ _ _ _ _ (stepM_length t v bs bt l _ _ _ _ _)
    · exact h
theorem rdS (a : List ByteArray) (x : ByteArray) (b : List ByteArray) : rdOf ByteArray.empty (a ++ x :: b) (a.length : Int) = x := by simp [rdOf, List.getD]
theorem sRep_run : ∀ (b a : List ByteArray) (k : Nat) (p t v bs bt : Int) (l : List S51), a.length + b.length ≤ 1048600 → (∀ x ∈ b, x.size ≤ 1048576) → 0 ≤ p → p ≤ 2000000 * (a.length : Int) → l.length ≤ 61 → b.length + 1048700 < k →
    spec_Replay.l0 k (a ++ b) p (a.length : Int) t v bs bt l = some (repM t v bs bt l p b)
  | [], a, k, p, t, v, bs, bt, l, h0, hz, p0, p1, hl, hk => by
    obtain ⟨q, rfl⟩ : ∃ m, k = m + 1 := ⟨k - 1, by omega⟩
    simp only [spec_Replay.l0]; rw [if_neg (by simp)]; rfl
  | x :: b, a, k, p, t, v, bs, bt, l, h0, hz, p0, p1, hl, hk => by
    simp only [List.length_cons] at h0 hk
    obtain ⟨q, rfl⟩ : ∃ m, k = m + 1 := ⟨k - 1, by omega⟩
    have hx := hz x List.mem_cons_self
    have hs := stepM_length t v bs bt l (readRecM x).1 (readRecM x).2.1 (readRecM x).2.2.1 (readRecM x).2.2.2.1 (readRecM x).2.2.2.2.1
    have f := sRep_run b (a ++ [x]) q (p + 8 + (x.size : Int)) (stepM t v bs bt l (readRecM x).1 (readRecM x).2.1 (readRecM x).2.2.1 (readRecM x).2.2.2.1 (readRecM x).2.2.2.2.1).1 (stepM t v bs bt l (readRecM x).1 (readRecM x).2.1 (readRecM x).2.2.1 (readRecM x).2.2.2.1 (readRecM x).2.2.2.2.1).2.1 (stepM t v bs bt l (readRecM x).1 (readRecM x).2.1 (readRecM x).2.2.1 (readRecM x).2.2.2.1 (readRecM x).2.2.2.2.1).2.2.1 (stepM t v bs bt l (readRecM x).1 (readRecM x).2.1 (readRecM x).2.2.1 (readRecM x).2.2.2.1 (readRecM x).2.2.2.2.1).2.2.2.1 (stepM t v bs bt l (readRecM x).1 (readRecM x).2.1 (readRecM x).2.2.1 (readRecM x).2.2.2.1 (readRecM x).2.2.2.2.1).2.2.2.2.1 (by simp; omega) (fun y hy => hz y (List.mem_cons_of_mem _ hy)) (by omega) (by rw [List.length_append, List.length_singleton]; omega) hs (by omega)
    rw [List.append_assoc, List.singleton_append, show (((a ++ [x]).length : Nat) : Int) = (a.length : Int) + 1 by simp] at f
    simp only [spec_Replay.l0]
    rw [if_pos (by simp; omega), if_pos (by omega), rdS, spec_ReadRec_f x (by omega) q (by omega)]
    simp only [Option.bind_some]
    rw [spec_WalStep_f t v bs bt l (by omega) _ _ _ _ _ q (by omega)]
    simp only [Option.bind_some]
    rw [w64 (n := p + 8) (by omega) (by omega), w64 (n := p + 8 + (x.size : Int)) (by omega) (by omega), w64 (n := (a.length : Int) + 1) (by omega) (by omega), f, repM]
    by_cases c1 : (readRecM x).2.2.2.2.2 = true
    · rw [if_pos c1]
      by_cases c2 : (stepM t v bs bt l (readRecM x).1 (readRecM x).2.1 (readRecM x).2.2.1 (readRecM x).2.2.2.1 (readRecM x).2.2.2.2.1).2.2.2.2.2 = true
      · rw [if_pos c2, if_pos ⟨c1, c2⟩]
      · rw [if_neg c2, if_neg (fun h => c2 h.2)]
    · rw [if_neg c1, if_neg (fun h => c1 h.1)]
theorem iRep_run : ∀ (b a : List ByteArray) (k : Nat) (p t v bs bt : Int) (l : List S51), a.length + b.length ≤ 1048600 → (∀ x ∈ b, x.size ≤ 1048576) → 0 ≤ p → p ≤ 2000000 * ((a.length : Int) + 1) → l.length ≤ 61 → b.length + 1048700 < k →
    impl_Replay.l0 k p (a ++ b) (((a ++ b).length : Nat) : Int) (a.length : Int) t v bs bt l = some (repM t v bs bt l p b)
  | [], a, k, p, t, v, bs, bt, l, h0, hz, p0, p1, hl, hk => by
    obtain ⟨q, rfl⟩ : ∃ m, k = m + 1 := ⟨k - 1, by omega⟩
    simp only [impl_Replay.l0]; rw [if_neg (by simp)]; rfl
  | x :: b, a, k, p, t, v, bs, bt, l, h0, hz, p0, p1, hl, hk => by
    simp only [List.length_cons] at h0 hk
    obtain ⟨q, rfl⟩ : ∃ m, k = m + 1 := ⟨k - 1, by omega⟩
    have hx := hz x List.mem_cons_self
    have hs := stepM_length t v bs bt l (readRecM x).1 (readRecM x).2.1 (readRecM x).2.2.1 (readRecM x).2.2.2.1 (readRecM x).2.2.2.2.1
    have f := iRep_run b (a ++ [x]) q (p + 8 + (x.size : Int)) (stepM t v bs bt l (readRecM x).1 (readRecM x).2.1 (readRecM x).2.2.1 (readRecM x).2.2.2.1 (readRecM x).2.2.2.2.1).1 (stepM t v bs bt l (readRecM x).1 (readRecM x).2.1 (readRecM x).2.2.1 (readRecM x).2.2.2.1 (readRecM x).2.2.2.2.1).2.1 (stepM t v bs bt l (readRecM x).1 (readRecM x).2.1 (readRecM x).2.2.1 (readRecM x).2.2.2.1 (readRecM x).2.2.2.2.1).2.2.1 (stepM t v bs bt l (readRecM x).1 (readRecM x).2.1 (readRecM x).2.2.1 (readRecM x).2.2.2.1 (readRecM x).2.2.2.2.1).2.2.2.1 (stepM t v bs bt l (readRecM x).1 (readRecM x).2.1 (readRecM x).2.2.1 (readRecM x).2.2.2.1 (readRecM x).2.2.2.2.1).2.2.2.2.1 (by simp; omega) (fun y hy => hz y (List.mem_cons_of_mem _ hy)) (by omega) (by rw [List.length_append, List.length_singleton]; omega) hs (by omega)
    rw [List.append_assoc, List.singleton_append, show (((a ++ [x]).length : Nat) : Int) = (a.length : Int) + 1 by simp] at f
    simp only [impl_Replay.l0]
    rw [if_pos (by simp; omega), if_pos (by omega), if_pos (by simp; omega), rdS, impl_ReadRec_f x (by omega) q (by omega)]
    simp only [Option.bind_some]
    rw [impl_WalStep_f t v bs bt l (by omega) _ _ _ _ _ q (by omega)]
    simp only [Option.bind_some]
    rw [w64 (n := (x.size : Int) + 8) (by omega) (by omega), w64 (n := p + ((x.size : Int) + 8)) (by omega) (by omega), w64 (n := (a.length : Int) + 1) (by omega) (by omega), show p + ((x.size : Int) + 8) = p + 8 + (x.size : Int) by omega, f, repM]
    by_cases c1 : (readRecM x).2.2.2.2.2 = true
    · rw [if_pos c1]
      by_cases c2 : (stepM t v bs bt l (readRecM x).1 (readRecM x).2.1 (readRecM x).2.2.1 (readRecM x).2.2.2.1 (readRecM x).2.2.2.2.1).2.2.2.2.2 = true
      · rw [if_pos c2, if_pos ⟨c1, c2⟩]
      · rw [if_neg c2, if_neg (fun h => c2 h.2)]
    · rw [if_neg c1, if_neg (fun h => c1 h.1)]
theorem rep_both (s : ByteArray) (hs : s.size ≤ 1048576) : ∃ r : Wv, r.2.2.2.2.1.length ≤ 61 ∧ (∀ k, 2097600 < k → spec_Replay.f k s = some r) ∧ (∀ k, 2097600 < k → impl_Replay.f k s = some r) := by
  have hz := frs_size (s.size + 1) s 0
  have hn := frs_length (s.size + 1) s 0
  have e1 : ∀ k, 2097600 < k → spec_Frames.f k s = some (frs (s.size + 1) s 0) := fun k hk => spec_Frames_f s hs k (by omega)
  have e2 : ∀ k, 2097600 < k → impl_Frames.f k s = some (frs (s.size + 1) s 0) := fun k hk => impl_Frames_f s hs k (by omega)
  generalize frs (s.size + 1) s 0 = R at *
  obtain ⟨L, e⟩ := R
  simp only [] at hz hn
  cases L with
  | nil =>
    refine ⟨(0, 0, 0, 0, [], 0, false), by simp, fun k hk => ?_, fun k hk => ?_⟩
    · unfold spec_Replay.f
      rw [e1 k hk]; simp
    · unfold impl_Replay.f
      rw [e2 k hk]; simp
  | cons x r =>
    rw [List.length_cons] at hn
    have hx := hz x List.mem_cons_self
    have hr0 : rdOf ByteArray.empty (x :: r) 0 = x := rfl
    have no : ((((x :: r).length : Nat)) : Int) ≠ 0 := by rw [List.length_cons]; omega
    have yes : (0 : Int) < (((x :: r).length : Nat) : Int) := by rw [List.length_cons]; omega
    have S : ∀ k, 2097600 < k → spec_Replay.f k s = if (readRecM x).2.2.2.2.2 = true ∧ (readRecM x).1 = 4 then some (repM (readRecM x).2.1 (-1) (readRecM x).2.2.1 (readRecM x).2.1 [] (8 + (x.size : Int)) r) else some (0, 0, 0, 0, [], 0, false) := by
      intro k hk
      obtain ⟨q, rfl⟩ : ∃ m, k = m + 1 := ⟨k - 1, by omega⟩
      have j0 : ∀ b y0 y1 y2 y3 y4, spec_Replay.j0 (q + 1) (x :: r) b y0 y1 y2 y3 y4 = if b = true then some (0, 0, 0, 0, [], 0, false) else some (repM y1 (-1) y2 y1 [] (8 + (x.size : Int)) r) := by
        intro b y0 y1 y2 y3 y4
        simp only [spec_Replay.j0]
        have f : spec_Replay.l0 q (x :: r) (8 + (x.size : Int)) 1 y1 (-1) y2 y1 [] = some (repM y1 (-1) y2 y1 [] (8 + (x.size : Int)) r) := sRep_run r [x] q (8 + (x.size : Int)) y1 (-1) y2 y1 [] (by simp; omega) (fun y hy => by have := hz y (List.mem_cons_of_mem _ hy); omega) (by omega) (by simp; omega) (by simp) (by omega)
        rw [if_pos yes, hr0, w64 (n := 8 + (x.size : Int)) (by omega) (by omega), f]
      unfold spec_Replay.f
      rw [e1 _ hk]
      simp only [Option.bind_some]
      rw [if_neg no, if_pos yes, hr0, spec_ReadRec_f x (by omega) (q + 1) (by omega)]
      simp only [Option.bind_some, j0]
      by_cases c1 : (readRecM x).2.2.2.2.2 = true
      · rw [if_pos c1]
        by_cases c2 : (readRecM x).1 = 4
        · rw [if_neg (by rw [bne_iff_ne]; exact fun h => h c2), if_pos ⟨c1, c2⟩]
        · rw [if_pos (by rw [bne_iff_ne]; exact c2), if_neg (fun h => c2 h.2)]
      · rw [if_neg c1]; first | rw [if_pos trivial, if_neg (fun h => c1 h.1)] | rw [if_pos rfl, if_neg (fun h => c1 h.1)]
    have I : ∀ k, 2097600 < k → impl_Replay.f k s = if (readRecM x).2.2.2.2.2 = true ∧ (readRecM x).1 = 4 then some (repM (readRecM x).2.1 (-1) (readRecM x).2.2.1 (readRecM x).2.1 [] (8 + (x.size : Int)) r) else some (0, 0, 0, 0, [], 0, false) := by
      intro k hk
      obtain ⟨q, rfl⟩ : ∃ m, k = m + 1 := ⟨k - 1, by omega⟩
      have j0 : ∀ b y0 y1 y2 y3 y4, impl_Replay.j0 (q + 1) (x :: r) b y0 y1 y2 y3 y4 = if b = true then some (0, 0, 0, 0, [], 0, false) else some (repM y1 (-1) y2 y1 [] (8 + (x.size : Int)) r) := by
        intro b y0 y1 y2 y3 y4
        simp only [impl_Replay.j0, Option.bind_some]
        have f := iRep_run r [] q (8 + (x.size : Int)) y1 (-1) y2 y1 [] (by simp; omega) (fun y hy => by have := hz y (List.mem_cons_of_mem _ hy); omega) (by omega) (by simp; omega) (by simp) (by omega)
        rw [List.nil_append, List.length_nil, show ((0 : Nat) : Int) = 0 from rfl] at f
        rw [if_pos yes, if_pos (show (1 : Int) ≤ (((x :: r).length : Nat) : Int) by omega), hr0, w64 (n := (x.size : Int) + 8) (by omega) (by omega), show (x :: r).drop 1 = r from rfl, show (x.size : Int) + 8 = 8 + (x.size : Int) by omega, f]
      unfold impl_Replay.f
      rw [e2 _ hk]
      simp only [Option.bind_some]
      rw [if_neg no, if_pos yes, hr0, impl_ReadRec_f x (by omega) (q + 1) (by omega)]
      simp only [Option.bind_some, j0]
      by_cases c1 : (readRecM x).2.2.2.2.2 = true
      · rw [if_pos c1]
        by_cases c2 : (readRecM x).1 = 4
        · rw [if_neg (by rw [bne_iff_ne]; exact fun h => h c2), if_pos ⟨c1, c2⟩]
        · rw [if_pos (by rw [bne_iff_ne]; exact c2), if_neg (fun h => c2 h.2)]
      · rw [if_neg c1]; first | rw [if_pos trivial, if_neg (fun h => c1 h.1)] | rw [if_pos rfl, if_neg (fun h => c1 h.1)]
    by_cases c : (readRecM x).2.2.2.2.2 = true ∧ (readRecM x).1 = 4
    · exact ⟨repM (readRecM x).2.1 (-1) (readRecM x).2.2.1 (readRecM x).2.1 [] (8 + (x.size : Int)) r, repM_len r _ _ _ _ _ _ (Nat.zero_le 61), fun k hk => by rw [S k hk, if_pos c], fun k hk => by rw [I k hk, if_pos c]⟩
    · exact ⟨(0, 0, 0, 0, [], 0, false), Nat.zero_le 61, fun k hk => by rw [S k hk, if_neg c], fun k hk => by rw [I k hk, if_neg c]⟩
theorem FnExactReplay : laws_FnExactReplay.Pure := by
  intro s hs
  obtain ⟨K, hK⟩ : ∃ K : Nat, K = 2097700 := ⟨_, rfl⟩
  refine ⟨K + 1 + 1, ?_⟩
  unfold laws_FnExactReplay.f
  by_cases hz : (s.size : Int) > 1048576
  · rw [if_pos hz]
  · rw [if_neg hz]
    obtain ⟨⟨t, v, b, bt, l, p, o⟩, hl, e1, e2⟩ := rep_both s (by omega)
    simp only [] at hl
    rw [e1 _ (by omega), e2 _ (by omega)]; simp only [Option.bind_some]
    rw [laws_eqWal_f t v b bt l (by omega) _ (by omega)]; simp only [Option.bind_some]
    rw [if_pos trivial, if_pos trivial, bne_self_eq_false]
    simp only [laws_FnExactReplay.j0]
    rw [if_neg (by decide), laws_markWal_f t v b bt l 1 (by omega) (by omega) _ (by omega)]; simp only [Option.bind_some]
    rw [laws_heldWal_f t v b bt l.length 1 (by omega) (by omega) _ (by omega)]; simp only [Option.bind_some]
    rw [if_neg (by omega), if_pos trivial, e2 _ (by omega)]; simp only [Option.bind_some]
    rw [laws_eqWal_f t v b bt l (by omega) _ (by omega)]; simp only [Option.bind_some]
    rw [if_pos trivial, if_pos trivial, bne_self_eq_false]
    simp only [laws_FnExactReplay.j1]
    rw [if_neg (by decide), laws_heldWal_f t v b bt l.length 1 (by omega) (by omega) _ (by omega)]; simp only [Option.bind_some]
    rw [if_neg (by omega), if_pos trivial]

end Go.Proofs.Ytflegbpgkkiijaa.Pure
