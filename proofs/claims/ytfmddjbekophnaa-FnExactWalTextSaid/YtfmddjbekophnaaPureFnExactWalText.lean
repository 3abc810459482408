/- FnExactWalText: for every log the program's WalText returns what the reference's returns. -/
import Derived.Test.YtfmddjbekophnaaPFnExactWalTextx1
import Derived.Test.YtfmddjbekophnaaPFnExactWalTextx2
import Derived.Test.YtfmddjbekophnaaPFnExactWalTextx3
import Derived.Test.YtfmddjbekophnaaPFnExactWalTextx4
import Derived.Test.YtfmddjbekophnaaPFnExactWalTextx5
import Derived.Test.YtfmddjbekophnaaPFnExactWalTextx6
import Derived.Test.YtfmddjbekophnaaPFnExactWalTextx7
import Derived.Test.YtfmddjbekophnaaPFnExactWalTextx8
import Derived.Test.YtfmddjbekophnaaPFnExactWalTextx9
import Derived.Test.YtfmddjbekophnaaBase
import Derived.Test.YtfmddjbekophnaaNum
import Derived.Test.YtfmddjbekophnaaNumCrc
import Derived.Test.YtfmddjbekophnaaNumFrame
import Derived.Test.YtfmddjbekophnaaNumRec
namespace Go.Proofs.Ytfmddjbekophnaa.Pure
open Go.RowKit Go.Proofs.Ytfmddjbekophnaa.PFnExactWalText Go.Proofs.YtfmddjbekophnaaW.PrintWords Go.Proofs.YtfmddjbekophnaaW.PrintLast Go.Proofs.YtfmddjbekophnaaW.PrintMore Go.Proofs.Ytfmddjbekophnaa.Base
set_option linter.unusedVariables false
set_option linter.unusedSimpArgs false

/-! ranges -/
theorem spec_l1In_run (a b c : Int) : spec_l1In.f a b c = some (decide (b ≤ a ∧ a ≤ c)) := by
  unfold spec_l1In.f
  by_cases h : a ≥ b
  · rw [if_pos h]; congr 1; simp [show b ≤ a from h]
  · rw [if_neg h]; congr 1; simp; omega

theorem impl_from_run (a b c : Int) : impl_from.f a b c = some (decide (b ≤ a ∧ a ≤ c)) := by
  unfold impl_from.f
  by_cases h : a ≥ b
  · rw [if_pos h]; congr 1; simp [show b ≤ a from h]
  · rw [if_neg h]; congr 1; simp; omega

/-! Fixed -/
def fixM (n w : Int) : List Int := if 1 ≤ w ∧ w ≤ 7 ∧ 0 ≤ n ∧ n < 256 ^ w.toNat then fixL w.toNat n else []

theorem spec_Fixed_run (w : Int) (hw : w ≤ 7) : ∀ (d k : Nat) (n i : Int) (out : ByteArray), 0 ≤ i → i + d = w → 0 ≤ n → n ≤ 9223372036854775807 → out.size = i.toNat → d < k →
    spec_Fixed.l0 k n w out i = some (if n / 256 ^ d > 0 then (⟨#[]⟩ : ByteArray) else strOfNums (fixL d n) ++ out) := by
  intro d
  induction d with
  | zero =>
    intro k n i out h0 h1 n0 n1 ho hk
    obtain ⟨k, rfl⟩ : ∃ m, k = m + 1 := ⟨k - 1, by omega⟩
    simp only [spec_Fixed.l0]
    rw [if_neg (by omega)]
    have e : strOfNums (fixL 0 n) ++ out = out := bytesOf_inj (by rw [bytesOf_append, bytesOf_strOfNums (fixL_byt _ _)]; rfl)
    rw [e]
    simp only [Int.pow_zero, Int.ediv_one]
    split <;> rfl
  | succ d ih =>
    intro k n i out h0 h1 n0 n1 ho hk
    obtain ⟨k, rfl⟩ : ∃ m, k = m + 1 := ⟨k - 1, by omega⟩
    simp only [spec_Fixed.l0, Option.bind_some]
    rw [if_pos (by omega), size_strOfNums, if_pos (by simp; omega), tmod_nn n0, tdiv_nn n0, w64 (n := n / 256) (by omega) (by omega), w64 (n := i + 1) (by omega) (by omega)]
    rw [ih k (n / 256) (i + 1) _ (by omega) (by omega) (by omega) (by omega) (by rw [ByteArray.size_append, size_strOfNums, ho]; simp; omega) (by omega), div_pow_succ]
    have e : strOfNums (fixL d (n / 256)) ++ (strOfNums [n % 256 % 256] ++ out) = strOfNums (fixL (d + 1) n) ++ out := by
      rw [fixL, ← strOfNums_append, ByteArray.append_assoc, show n % 256 % 256 = n % 256 by omega]
    rw [e]

theorem spec_Fixed_f (n w : Int) (n1 : n ≤ 9223372036854775807) (k : Nat) (hk : 8 < k) : spec_Fixed.f k n w = some (strOfNums (fixM n w)) := by
  unfold spec_Fixed.f fixM
  rw [spec_l1In_run]; simp only [Option.bind_some, decide_eq_true_eq]
  obtain ⟨k, rfl⟩ : ∃ m, k = m + 1 := ⟨k - 1, by omega⟩
  by_cases h : 1 ≤ w ∧ w ≤ 7
  · rw [if_pos h]
    simp only [spec_Fixed.j0, decide_eq_true_eq]
    by_cases h2 : n < 0
    · rw [if_pos h2, if_neg (by omega)]; rfl
    · rw [if_neg h2, spec_Fixed_run w h.2 w.toNat k n 0 _ (by omega) (by omega) (by omega) (by omega) rfl (by omega)]
      have hp := pow256_pos w.toNat
      by_cases h3 : n < 256 ^ w.toNat
      · have hc : 1 ≤ w ∧ w ≤ 7 ∧ 0 ≤ n ∧ n < 256 ^ w.toNat := ⟨h.1, h.2, by omega, h3⟩
        rw [if_pos hc, Int.ediv_eq_zero_of_lt (by omega) h3, if_neg (by omega)]
        congr 1
        exact bytesOf_inj (by rw [bytesOf_append]; simp [bytesOf])
      · have hc : ¬ (1 ≤ w ∧ w ≤ 7 ∧ 0 ≤ n ∧ n < 256 ^ w.toNat) := fun hc => h3 hc.2.2.2
        have hd := div_ge_one hp (show 256 ^ w.toNat ≤ n by omega)
        rw [if_neg hc, if_pos (by omega)]; rfl
  · rw [if_neg h, if_neg (by omega)]
    simp only [spec_Fixed.j0]; rfl

theorem impl_Fixed_run (n : Int) : ∀ (d k : Nat) (xs : List Int), d ≤ 7 → xs.length + d < 100 → d < k →
    impl_Fixed.l0 k n xs ((d : Int) - 1) = some (strOfNums (xs ++ fixL d n)) := by
  intro d
  induction d with
  | zero =>
    intro k xs h7 hx hk
    obtain ⟨k, rfl⟩ : ∃ m, k = m + 1 := ⟨k - 1, by omega⟩
    simp only [impl_Fixed.l0]
    rw [if_neg (by omega)]; simp [fixL]
  | succ d ih =>
    intro k xs h7 hx hk
    obtain ⟨k, rfl⟩ : ∃ m, k = m + 1 := ⟨k - 1, by omega⟩
    simp only [impl_Fixed.l0]
    rw [show ((d + 1 : Nat) : Int) - 1 = (d : Int) by omega, if_pos (by omega), w64 (n := 8 * (d : Int)) (by omega) (by omega), if_pos (by omega), if_pos (by omega), w64 (n := (d : Int) - 1) (by omega) (by omega), shr8 n (by omega) (by omega), ih k _ (by omega) (by simp; omega) (by omega), fixL_cons]
    simp

theorem impl_Fixed_f (n w : Int) (k : Nat) (hk : 8 < k) : impl_Fixed.f k n w = some (strOfNums (fixM n w)) := by
  unfold impl_Fixed.f fixM
  rw [impl_from_run]; simp only [Option.bind_some, decide_eq_true_eq]
  obtain ⟨k, rfl⟩ : ∃ m, k = m + 1 := ⟨k - 1, by omega⟩
  by_cases h : 1 ≤ w ∧ w ≤ 7
  · rw [if_pos h]
    by_cases h2 : n < 0
    · rw [if_pos h2, if_neg (by omega)]; simp only [impl_Fixed.j0]; rfl
    · rw [if_neg h2, w64 (n := 8 * w) (by omega) (by omega), if_pos (by omega), shr8 n (by omega) (by omega)]
      have hp := pow256_pos w.toNat
      simp only [impl_Fixed.j0, bne_iff_ne, ne_eq]
      by_cases h3 : n < 256 ^ w.toNat
      · have hc : 1 ≤ w ∧ w ≤ 7 ∧ 0 ≤ n ∧ n < 256 ^ w.toNat := ⟨h.1, h.2, by omega, h3⟩
        rw [if_pos hc, Int.ediv_eq_zero_of_lt (by omega) h3, if_neg (by simp), w64 (n := w - 1) (by omega) (by omega)]
        have := impl_Fixed_run n w.toNat k [] (by omega) (by simp; omega) (by omega)
        rw [show ((w.toNat : Nat) : Int) - 1 = w - 1 by omega] at this
        rw [this]; simp
      · have hc : ¬ (1 ≤ w ∧ w ≤ 7 ∧ 0 ≤ n ∧ n < 256 ^ w.toNat) := fun hc => h3 hc.2.2.2
        have hd := div_ge_one hp (show 256 ^ w.toNat ≤ n by omega)
        rw [if_neg hc, if_pos (by omega)]; rfl
  · rw [if_neg h, if_neg (by omega)]
    simp only [impl_Fixed.j0]; rfl

/-! Var -/
def varM (n : Int) : List Int := if 0 ≤ n ∧ n ≤ 562949953421311 then varN n.toNat else []
theorem varM_byt (n : Int) : Byt (varM n) := by
  unfold varM; split
  · exact varN_byt _
  · exact byt_nil

theorem spec_Var_run : ∀ (d k n : Nat) (xs : List Int), n < 128 ^ (d + 1) → d ≤ 7 → xs.length + d < 100 → d < k →
    spec_Var.l0 k (n : Int) xs = some (strOfNums (xs ++ varN n)) := by
  intro d
  induction d with
  | zero =>
    intro k n xs h0 h7 h1 hk
    obtain ⟨k, rfl⟩ : ∃ m, k = m + 1 := ⟨k - 1, by omega⟩
    simp only [spec_Var.l0]
    rw [if_neg (by omega), if_pos (by omega), varN_lt (by omega), show (n : Int) % 256 = n by omega]
  | succ d ih =>
    intro k n xs h0 h7 h1 hk
    obtain ⟨k, rfl⟩ : ∃ m, k = m + 1 := ⟨k - 1, by omega⟩
    simp only [spec_Var.l0]
    have hb : n < 128 ^ 9 := Nat.lt_of_lt_of_le h0 (Nat.pow_le_pow_right (by omega) (by omega))
    by_cases h : n < 128
    · rw [if_neg (by omega), if_pos (by omega), varN_lt h, show (n : Int) % 256 = n by omega]
    · rw [if_pos (by omega), if_pos (by omega), varN_ge h, tdiv_nn (by omega), tmod_nn (by omega), w64 (n := (n : Int) / 128) (by omega) (by omega), w64 (n := 128 + (n : Int) % 128) (by omega) (by omega)]
      have e : (n : Int) / 128 = ((n / 128 : Nat) : Int) := by omega
      rw [e, ih k (n / 128) _ (by rw [pow128] at h0; omega) (by omega) (by simp; omega) (by omega)]
      have e2 : (128 + (n : Int) % 128) % 256 = ((n % 128 + 128 : Nat) : Int) := by omega
      rw [e2]; simp

theorem spec_Var_f (n : Int) (k : Nat) (hk : 8 < k) : spec_Var.f k n = some (strOfNums (varM n)) := by
  unfold spec_Var.f varM
  rw [spec_l1In_run]; simp only [Option.bind_some, decide_eq_true_eq]
  by_cases h : 0 ≤ n ∧ n ≤ 562949953421311
  · rw [if_pos h, if_pos h]
    have := spec_Var_run 6 k n.toNat [] (by omega) (by omega) (by simp) (by omega)
    rw [show ((n.toNat : Nat) : Int) = n by omega] at this
    rw [this]; rfl
  · rw [if_neg h, if_neg h]; rfl

theorem impl_Var_run : ∀ (d k n : Nat) (xs : List Int), n < 128 ^ (d + 1) → d ≤ 7 → xs.length + d < 100 → d < k →
    impl_Var.l0 k (n : Int) xs = some (strOfNums (xs ++ varN n)) := by
  intro d
  induction d with
  | zero =>
    intro k n xs h0 h7 h1 hk
    obtain ⟨k, rfl⟩ : ∃ m, k = m + 1 := ⟨k - 1, by omega⟩
    simp only [impl_Var.l0]
    rw [if_neg (by omega), if_pos (by omega), varN_lt (by omega), show (n : Int) % 256 = n by omega]
  | succ d ih =>
    intro k n xs h0 h7 h1 hk
    obtain ⟨k, rfl⟩ : ∃ m, k = m + 1 := ⟨k - 1, by omega⟩
    simp only [impl_Var.l0]
    have hb : n < 128 ^ 9 := Nat.lt_of_lt_of_le h0 (Nat.pow_le_pow_right (by omega) (by omega))
    by_cases h : n < 128
    · rw [if_neg (by omega), if_pos (by omega), varN_lt h, show (n : Int) % 256 = n by omega]
    · rw [if_pos (by omega), if_pos (by omega), varN_ge h, tdiv_nn (by omega), tmod_nn (by omega), w64 (n := (n : Int) / 128) (by omega) (by omega), w64 (n := (n : Int) % 128 + 128) (by omega) (by omega)]
      have e : (n : Int) / 128 = ((n / 128 : Nat) : Int) := by omega
      rw [e, ih k (n / 128) _ (by rw [pow128] at h0; omega) (by omega) (by simp; omega) (by omega)]
      have e2 : ((n : Int) % 128 + 128) % 256 = ((n % 128 + 128 : Nat) : Int) := by omega
      rw [e2]; simp

theorem impl_Var_f (n : Int) (k : Nat) (hk : 8 < k) : impl_Var.f k n = some (strOfNums (varM n)) := by
  unfold impl_Var.f varM
  rw [impl_from_run]; simp only [Option.bind_some, decide_eq_true_eq]
  by_cases h : 0 ≤ n ∧ n ≤ 562949953421311
  · rw [if_pos h, if_pos h]
    have := impl_Var_run 6 k n.toNat [] (by omega) (by omega) (by simp) (by omega)
    rw [show ((n.toNat : Nat) : Int) = n by omega] at this
    rw [this]; rfl
  · rw [if_neg h, if_neg h]; rfl

/-! Crc -/
theorem spec_Crc_inner (s : ByteArray) (i : Int) : ∀ (d k : Nat) (j c : Int), j + d = 8 → 0 ≤ j → 0 ≤ c → c < 4294967296 →
    spec_Crc.l1 (k + d + 1) s c i j = spec_Crc.l0 k s (crcI d c) (wrap64 (i + 1)) := by
  intro d
  induction d with
  | zero =>
    intro k j c hj h0 c0 c1
    simp only [spec_Crc.l1]
    rw [if_neg (by omega)]; rfl
  | succ d ih =>
    intro k j c hj h0 c0 c1
    obtain ⟨q, hq⟩ : ∃ q, k + d + 1 = q := ⟨_, rfl⟩
    rw [show k + (d + 1) + 1 = q + 1 by omega]
    simp only [spec_Crc.l1]
    have hr := crc1_range c0 c1
    rw [if_pos (by omega), tmod_nn c0, tdiv_nn c0, w64 (n := c / 2) (by omega) (by omega), w64 (n := j + 1) (by omega) (by omega), crcI]
    by_cases h : c % 2 = 1
    · rw [if_pos h, bits_xor64 (by omega) (by omega) (by omega) (by omega)]
      have e : crc1 c = xr (c / 2) 2197175160 := by unfold crc1; rw [if_pos h]
      rw [← e, ← hq, ih k (j + 1) _ (by omega) (by omega) hr.1 hr.2]
    · rw [if_neg h]
      have e : crc1 c = c / 2 := by unfold crc1; rw [if_neg h]
      rw [← e, ← hq, ih k (j + 1) _ (by omega) (by omega) hr.1 hr.2]

theorem spec_Crc_run (s : ByteArray) (hs : s.size ≤ 140737488351232) : ∀ (d k : Nat) (i c : Int), 0 ≤ i → i + d = s.size → 0 ≤ c → c < 4294967296 →
    spec_Crc.l0 (k + 10 * d + 1) s c i = some (4294967295 - crcL ((bytesOf s).drop i.toNat) c) := by
  intro d
  induction d with
  | zero =>
    intro k i c h0 h1 c0 c1
    simp only [spec_Crc.l0]
    rw [if_neg (by omega), List.drop_of_length_le (by rw [bytesOf_length]; omega), w64 (by omega) (by omega)]; rfl
  | succ d ih =>
    intro k i c h0 h1 c0 c1
    obtain ⟨q, hq⟩ : ∃ q, (k + 10 * d + 1) + 8 + 1 = q := ⟨_, rfl⟩
    rw [show k + 10 * (d + 1) + 1 = q + 1 by omega]
    have hlt : i < (s.size : Int) := by omega
    obtain ⟨b0, b1⟩ := bt_range s i
    obtain ⟨r0, r1⟩ := xr_range (a := c) (b := bt s i) c1 (by omega)
    obtain ⟨q0, q1⟩ := crcI_range 8 r0 r1
    simp only [spec_Crc.l0]
    rw [if_pos hlt, if_pos h0, w64 (n := bt s i) (by omega) (by omega), bits_xor64 c0 c1 b0 (by omega), ← hq, spec_Crc_inner s i 8 _ 0 _ (by omega) (by omega) r0 r1, w64 (n := i + 1) (by omega) (by omega), ih k (i + 1) _ (by omega) (by omega) q0 q1, bt_drop h0 hlt, show (i + 1).toNat = i.toNat + 1 by omega]; rfl

theorem spec_Crc_f (s : ByteArray) (hs : s.size ≤ 140737488351232) (k : Nat) (hk : 10 * s.size < k) : spec_Crc.f k s = some (crcM (bytesOf s)) := by
  obtain ⟨q, rfl⟩ : ∃ m, k = m + 10 * s.size + 1 := ⟨k - 10 * s.size - 1, by omega⟩
  unfold spec_Crc.f
  exact spec_Crc_run s hs s.size q 0 _ (by omega) (by omega) (by omega) (by omega)

theorem impl_Crc_inner (s : ByteArray) (n i : Int) : ∀ (d k : Nat) (j c : Int), j + d = 8 → 0 ≤ j → 0 ≤ c → c < 4294967296 →
    impl_Crc.l1 (k + d + 1) s c n i j = impl_Crc.l0 k s (crcI d c) n (wrap64 (i + 1)) := by
  intro d
  induction d with
  | zero =>
    intro k j c hj h0 c0 c1
    simp only [impl_Crc.l1]
    rw [if_neg (by omega)]; rfl
  | succ d ih =>
    intro k j c hj h0 c0 c1
    obtain ⟨q, hq⟩ : ∃ q, k + d + 1 = q := ⟨_, rfl⟩
    rw [show k + (d + 1) + 1 = q + 1 by omega]
    simp only [impl_Crc.l1]
    have hr := crc1_range c0 c1
    rw [if_pos (by omega), bits_and1 c0 c1, w64 (n := j + 1) (by omega) (by omega), crcI]
    by_cases h : c % 2 = 1
    · rw [if_pos h, bits_xor32 (by omega) (by omega) (by omega) (by omega)]
      have e : crc1 c = xr (c / 2) 2197175160 := by unfold crc1; rw [if_pos h]
      rw [← e, ← hq, ih k (j + 1) _ (by omega) (by omega) hr.1 hr.2]
    · rw [if_neg h]
      have e : crc1 c = c / 2 := by unfold crc1; rw [if_neg h]
      rw [← e, ← hq, ih k (j + 1) _ (by omega) (by omega) hr.1 hr.2]

theorem impl_Crc_run (s : ByteArray) (hs : s.size ≤ 140737488351232) : ∀ (d k : Nat) (i c : Int), 0 ≤ i → i + d = s.size → 0 ≤ c → c < 4294967296 →
    impl_Crc.l0 (k + 10 * d + 1) s c (s.size : Int) i = some (4294967295 - crcL ((bytesOf s).drop i.toNat) c) := by
  intro d
  induction d with
  | zero =>
    intro k i c h0 h1 c0 c1
    simp only [impl_Crc.l0]
    rw [if_neg (by omega), List.drop_of_length_le (by rw [bytesOf_length]; omega), bits_xor32 (by omega) (by omega) c0 c1, xr_ones c0 c1, w64 (by omega) (by omega)]; rfl
  | succ d ih =>
    intro k i c h0 h1 c0 c1
    obtain ⟨q, hq⟩ : ∃ q, (k + 10 * d + 1) + 8 + 1 = q := ⟨_, rfl⟩
    rw [show k + 10 * (d + 1) + 1 = q + 1 by omega]
    have hlt : i < (s.size : Int) := by omega
    obtain ⟨b0, b1⟩ := bt_range s i
    obtain ⟨r0, r1⟩ := xr_range (a := c) (b := bt s i) c1 (by omega)
    obtain ⟨q0, q1⟩ := crcI_range 8 r0 r1
    simp only [impl_Crc.l0]
    rw [if_pos hlt, if_pos h0, if_pos hlt, show bt s i % 4294967296 = bt s i by omega, bits_xor32 c0 c1 b0 (by omega), ← hq, impl_Crc_inner s _ i 8 _ 0 _ (by omega) (by omega) r0 r1, w64 (n := i + 1) (by omega) (by omega), ih k (i + 1) _ (by omega) (by omega) q0 q1, bt_drop h0 hlt, show (i + 1).toNat = i.toNat + 1 by omega]; rfl

theorem impl_Crc_f (s : ByteArray) (hs : s.size ≤ 140737488351232) (k : Nat) (hk : 10 * s.size < k) : impl_Crc.f k s = some (crcM (bytesOf s)) := by
  obtain ⟨q, rfl⟩ : ∃ m, k = m + 10 * s.size + 1 := ⟨k - 10 * s.size - 1, by omega⟩
  unfold impl_Crc.f
  exact impl_Crc_run s hs s.size q 0 _ (by omega) (by omega) (by omega) (by omega)

/-! Frame -/
theorem spec_Frame_f (s : ByteArray) (hs : s.size ≤ 140737488351232) (k : Nat) (hk : 21000 < k) : spec_Frame.f k s = some (strOfNums (frameM (bytesOf s))) := by
  obtain ⟨k, rfl⟩ : ∃ m, k = m + 1 := ⟨k - 1, by omega⟩
  unfold spec_Frame.f frameM
  rw [bytesOf_length]
  by_cases h0 : (s.size : Int) = 0
  · rw [if_pos h0, if_neg (by omega)]; simp only [spec_Frame.j0]; rfl
  · rw [if_neg h0]
    simp only [spec_Frame.j0]
    by_cases h1 : (s.size : Int) > 2000
    · rw [if_pos (by simpa using h1), if_neg (by omega)]; rfl
    · have hf : fixM (s.size : Int) 4 = fixL 4 s.size := by unfold fixM; rw [if_pos]; · rfl
                                                            · refine ⟨by omega, by omega, by omega, ?_⟩; rw [show ((4 : Int).toNat) = 4 from rfl]; omega
      have hz : (strOfNums (fixL 4 (s.size : Int))).size = 4 := by rw [size_strOfNums, fixL_length]
      have hb : bytesOf (strOfNums (fixL 4 (s.size : Int)) ++ s) = fixL 4 s.size ++ bytesOf s := by rw [bytesOf_append, bytesOf_strOfNums (fixL_byt _ _)]
      obtain ⟨c0, c1⟩ := crcM_range (l := fixL 4 (s.size : Int) ++ bytesOf s) (byt_append.2 ⟨fixL_byt _ _, byt_bytesOf s⟩)
      have hf2 : fixM (crcM (fixL 4 (s.size : Int) ++ bytesOf s)) 4 = fixL 4 (crcM (fixL 4 s.size ++ bytesOf s)) := by
        unfold fixM; rw [if_pos]; · rfl
        · refine ⟨by omega, by omega, c0, ?_⟩; rw [show ((4 : Int).toNat) = 4 from rfl]; omega
      rw [if_neg (by simpa using h1), if_pos (by omega), spec_Fixed_f _ _ (by omega) _ (by omega), hf]
      simp only [Option.bind_some]
      rw [if_pos (by omega), spec_Crc_f _ (by rw [ByteArray.size_append]; omega) _ (by rw [ByteArray.size_append]; omega), hb]
      simp only [Option.bind_some]
      rw [spec_Fixed_f _ _ (by omega) _ (by omega), hf2]
      simp only [Option.bind_some]
      rw [if_pos (by simp only [ByteArray.size_append, hz, size_strOfNums, fixL_length]; omega), if_pos (by simp only [ByteArray.size_append, hz, size_strOfNums, fixL_length]; omega), ← strOfNums_append, ← strOfNums_append, strOfNums_bytesOf]


theorem impl_Frame_f (s : ByteArray) (hs : s.size ≤ 140737488351232) (k : Nat) (hk : 21000 < k) : impl_Frame.f k s = some (strOfNums (frameM (bytesOf s))) := by
  unfold impl_Frame.f frameM
  rw [bytesOf_length, impl_from_run]
  simp only [Option.bind_some, decide_eq_true_eq]
  by_cases h1 : 1 ≤ (s.size : Int) ∧ (s.size : Int) ≤ 2000
  · rw [if_pos h1, if_pos h1]
    · have hf : fixM (s.size : Int) 4 = fixL 4 s.size := by unfold fixM; rw [if_pos]; · rfl
                                                            · refine ⟨by omega, by omega, by omega, ?_⟩; rw [show ((4 : Int).toNat) = 4 from rfl]; omega
      have hz : (strOfNums (fixL 4 (s.size : Int))).size = 4 := by rw [size_strOfNums, fixL_length]
      have hb : bytesOf (strOfNums (fixL 4 (s.size : Int)) ++ s) = fixL 4 s.size ++ bytesOf s := by rw [bytesOf_append, bytesOf_strOfNums (fixL_byt _ _)]
      obtain ⟨c0, c1⟩ := crcM_range (l := fixL 4 (s.size : Int) ++ bytesOf s) (byt_append.2 ⟨fixL_byt _ _, byt_bytesOf s⟩)
      have hf2 : fixM (crcM (fixL 4 (s.size : Int) ++ bytesOf s)) 4 = fixL 4 (crcM (fixL 4 s.size ++ bytesOf s)) := by
        unfold fixM; rw [if_pos]; · rfl
        · refine ⟨by omega, by omega, c0, ?_⟩; rw [show ((4 : Int).toNat) = 4 from rfl]; omega
      rw [impl_Fixed_f _ _ _ (by omega), hf]
      simp only [Option.bind_some]
      rw [if_pos (by omega), impl_Crc_f _ (by rw [ByteArray.size_append]; omega) _ (by rw [ByteArray.size_append]; omega), hb]
      simp only [Option.bind_some]
      rw [impl_Fixed_f _ _ _ (by omega), hf2]
      simp only [Option.bind_some]
      rw [if_pos (by simp only [ByteArray.size_append, hz, size_strOfNums, fixL_length]; omega), if_pos (by simp only [ByteArray.size_append, hz, size_strOfNums, fixL_length]; omega), ← strOfNums_append, ← strOfNums_append, strOfNums_bytesOf]
  · rw [if_neg h1, if_neg h1]; rfl


/-! RecOk -/
theorem spec_l5Based_run (i t : Int) : spec_l5Based.f i t = some (placeM i t) := by
  unfold spec_l5Based.f placeM
  simp only [spec_l1In_run, Option.bind_some, decide_eq_true_eq]
  repeat' split
  all_goals (congr 1; rw [Bool.eq_iff_iff]; simp only [decide_eq_true_eq, Bool.and_eq_true, beq_iff_eq, true_iff, Bool.false_eq_true, false_iff, iff_true, iff_false]; omega)

theorem impl_isTerm_run (a : Int) : impl_isTerm.f a = some (decide (1 ≤ a ∧ a ≤ 100000)) := by
  unfold impl_isTerm.f; rw [impl_from_run]; rfl
theorem impl_isVote_run (a : Int) : impl_isVote.f a = some (decide (-1 ≤ a ∧ a ≤ 4)) := by
  unfold impl_isVote.f; rw [impl_from_run]; rfl
theorem impl_isPlace_run (i t : Int) : impl_isPlace.f i t = some (placeM i t) := by
  unfold impl_isPlace.f placeM
  simp only [impl_from_run, impl_isTerm_run, Option.bind_some, decide_eq_true_eq]
  repeat' split
  all_goals (congr 1; rw [Bool.eq_iff_iff]; simp only [decide_eq_true_eq, Bool.and_eq_true, beq_iff_eq, true_iff, Bool.false_eq_true, false_iff, iff_true, iff_false]; omega)

theorem spec_RecOk_run (k t i v : Int) (d : ByteArray) : spec_RecOk.f k t i v d = some (recOkM k t i v d.size) := by
  unfold spec_RecOk.f recOkM
  simp only [spec_l1In_run, spec_l5Based_run, Option.bind_some, decide_eq_true_eq, toList_nil]
  repeat' split
  all_goals (first | rfl | (exfalso; omega) | (congr 1; (try simp only [placeM, decide_eq_true_eq] at *); rw [Bool.eq_iff_iff]; (try simp only [decide_eq_true_eq, Bool.and_eq_true, beq_iff_eq, true_iff, Bool.false_eq_true, false_iff, iff_true, iff_false]); omega))

theorem impl_RecOk_run (k t i v : Int) (d : ByteArray) : impl_RecOk.f k t i v d = some (recOkM k t i v d.size) := by
  unfold impl_RecOk.f recOkM
  simp only [impl_from_run, impl_isTerm_run, impl_isVote_run, impl_isPlace_run, Option.bind_some, decide_eq_true_eq, toList_nil]
  repeat' split
  all_goals (first | rfl | (exfalso; omega) | (congr 1; (try simp only [placeM, decide_eq_true_eq] at *); rw [Bool.eq_iff_iff]; (try simp only [decide_eq_true_eq, Bool.and_eq_true, beq_iff_eq, true_iff, Bool.false_eq_true, false_iff, iff_true, iff_false]); omega))

/-! ShowRec -/
def showRecM (k t i v : Int) (d : ByteArray) : List Int := if recOkM k t i v d.size then [k] ++ varM t ++ varM i ++ varM (v + 1) ++ bytesOf d else []
theorem showRecM_byt (k t i v : Int) (d : ByteArray) : Byt (showRecM k t i v d) := by
  unfold showRecM
  split
  · rename_i h
    have hk : 0 ≤ k ∧ k < 256 := by
      unfold recOkM at h
      repeat' split at h
      all_goals (first | omega | simp at h)
    exact byt_append.2 ⟨byt_append.2 ⟨byt_append.2 ⟨byt_append.2 ⟨byt_cons.2 ⟨hk, byt_nil⟩, varM_byt _⟩, varM_byt _⟩, varM_byt _⟩, byt_bytesOf _⟩
  · exact byt_nil
theorem varM_length (n : Int) : (varM n).length ≤ 7 := by
  unfold varM; split
  · exact varN_length 6 _ (by omega)
  · simp
theorem rec_small {k t i v : Int} {n : Nat} (h : recOkM k t i v n = true) : (k = 1 ∨ k = 2 ∨ k = 3 ∨ k = 4) ∧ n ≤ 900 ∧ -1 ≤ v ∧ v ≤ 4 := by
  unfold recOkM at h
  split at h
  · simp at h; omega
  · split at h
    · simp at h; omega
    · split at h
      · simp at h; omega
      · split at h
        · simp at h; omega
        · simp at h
theorem spec_ShowRec_f (k t i v : Int) (d : ByteArray) (f : Nat) (hf : 8 < f) : spec_ShowRec.f f k t i v d = some (strOfNums (showRecM k t i v d)) := by
  unfold spec_ShowRec.f showRecM
  rw [spec_RecOk_run]
  simp only [Option.bind_some]
  by_cases h : recOkM k t i v d.size = true
  · obtain ⟨hk, hn, hv, hv2⟩ := rec_small h
    have l1 := varM_length t
    have l2 := varM_length i
    have l3 := varM_length (v + 1)
    rw [if_pos h, if_pos h, spec_Var_f _ _ hf, spec_Var_f _ _ hf, spec_Var_f _ _ hf, w64 (by omega) (by omega)]
    simp only [Option.bind_some, ByteArray.size_append, size_strOfNums, List.length_cons, List.length_nil]
    rw [if_pos (by omega), if_pos (by omega), if_pos (by omega), if_pos (by omega), show k % 256 = k by omega]
    congr 1
    rw [strOfNums_append, strOfNums_append, strOfNums_append]
    conv => lhs; rw [← strOfNums_bytesOf d]
    rw [strOfNums_append]
  · rw [if_neg h, if_neg h]; rfl

theorem impl_ShowRec_f (k t i v : Int) (d : ByteArray) (f : Nat) (hf : 8 < f) : impl_ShowRec.f f k t i v d = some (strOfNums (showRecM k t i v d)) := by
  unfold impl_ShowRec.f showRecM
  rw [impl_RecOk_run]
  simp only [Option.bind_some]
  by_cases h : recOkM k t i v d.size = true
  · obtain ⟨hk, hn, hv, hv2⟩ := rec_small h
    have l1 := varM_length t
    have l2 := varM_length i
    have l3 := varM_length (v + 1)
    rw [if_pos h, if_pos h, impl_Var_f _ _ hf, impl_Var_f _ _ hf, impl_Var_f _ _ hf, w64 (by omega) (by omega)]
    simp only [Option.bind_some, ByteArray.size_append, size_strOfNums, List.length_cons, List.length_nil]
    rw [if_pos (by omega), if_pos (by omega), if_pos (by omega), if_pos (by omega), show k % 256 = k by omega]
    congr 1
    rw [strOfNums_append, strOfNums_append, strOfNums_append]
    conv => lhs; rw [← strOfNums_bytesOf d]
    rw [strOfNums_append]
  · rw [if_neg h, if_neg h]; rfl


theorem rdA139 (a : List S139) (x : S139) (b : List S139) : rd_T139 (a ++ x :: b) (a.length : Int) = x := by simp [rd_T139, List.getD]
theorem setA139 (a : List S139) (x y : S139) (b : List S139) : (a ++ x :: b).set ((a.length : Int)).toNat y = a ++ y :: b := by
  rw [show ((a.length : Int)).toNat = a.length by omega, List.set_append_right _ _ (Nat.le_refl _), Nat.sub_self, List.set_cons_zero]
theorem rdA117 (a : List S117) (x : S117) (b : List S117) : rd_T117 (a ++ x :: b) (a.length : Int) = x := by simp [rd_T117, List.getD]
theorem setA117 (a : List S117) (x y : S117) (b : List S117) : (a ++ x :: b).set ((a.length : Int)).toNat y = a ++ y :: b := by
  rw [show ((a.length : Int)).toNat = a.length by omega, List.set_append_right _ _ (Nat.le_refl _), Nat.sub_self, List.set_cons_zero]
theorem laws_szEntry_f (a0 : Int) (a1 : ByteArray) (left : Int) (h1 : a1.size ≤ maxLen) (l0 : 0 ≤ left) (l1 : left ≤ 1048576) : ∃ r, laws_szEntry.f a0 a1 left = some r ∧ -1 ≤ r ∧ r ≤ left ∧ (0 ≤ r → 0 ≤ left ∧ (a1.size : Int) ≤ left) := by
  unfold laws_szEntry.f
  unfold maxLen at h1
  have e1 : wrap64 (left - (a1.size : Int)) = left - (a1.size : Int) := w64 (by omega) (by omega)
  simp only [e1]
  by_cases g1 : left - (a1.size : Int) < 0
  · rw [if_pos g1]; exact ⟨-1, rfl, by omega, by omega, fun h => by omega⟩
  · rw [if_neg g1]
    exact ⟨_, rfl, by omega, by omega, fun h => by omega⟩
theorem laws_szEntryS_run : ∀ (b a : List S139) (k : Nat) (left : Int), a.length + b.length ≤ 1048576 → (∀ x ∈ b, x.f1.size ≤ maxLen) → 0 ≤ left → left ≤ 1048576 → b.length < k →
    ∃ r, laws_szEntryS.l0 k (a ++ b) left (a.length : Int) = some r ∧ -1 ≤ r ∧ r ≤ left ∧ (0 ≤ r → ∀ x ∈ b, (x.f1.size : Int) ≤ left) := by
  intro b
  induction b with
  | nil =>
    intro a k left h0 hg l0 l1 hk
    obtain ⟨q, rfl⟩ : ∃ m, k = m + 1 := ⟨k - 1, by omega⟩
    simp only [laws_szEntryS.l0]
    rw [if_neg (by simp)]
    exact ⟨left, rfl, by omega, by omega, fun _ x hx => by simp at hx⟩
  | cons x b ih =>
    intro a k left h0 hg l0 l1 hk
    simp only [List.length_cons] at h0 hk
    obtain ⟨q, rfl⟩ : ∃ m, k = m + 1 := ⟨k - 1, by omega⟩
    simp only [laws_szEntryS.l0]
    rw [if_pos (by simp; omega), if_pos (by omega), rdA139]
    have hgx := hg x (List.mem_cons_self)
    obtain ⟨r, e, r0, r1, r2⟩ := laws_szEntry_f x.f0 x.f1 left hgx l0 l1
    rw [e]; simp only [Option.bind_some]
    by_cases hr : r < 0
    · rw [if_pos hr]; exact ⟨-1, rfl, by omega, by omega, fun h => by omega⟩
    · rw [if_neg hr, w64 (n := (a.length : Int) + 1) (by omega) (by omega)]
      obtain ⟨s, f, s0, s1, s2⟩ := ih (a ++ [x]) q r (by simp; omega) (fun y hy => hg y (List.mem_cons_of_mem _ hy)) (by omega) (by omega) (by omega)
      rw [List.append_assoc, List.singleton_append, show (((a ++ [x]).length : Nat) : Int) = (a.length : Int) + 1 by simp] at f
      refine ⟨s, f, s0, by omega, fun hs y hy => ?_⟩
      have r3 := r2 (by omega)
      rcases List.mem_cons.1 hy with rfl | hy
      · omega
      · have := s2 hs y hy
        omega
theorem laws_szEntryS_f (l : List S139) (left : Int) (hl : l.length ≤ maxLen) (hg : ∀ x ∈ l, x.f1.size ≤ maxLen) (l0 : 0 ≤ left) (l1 : left ≤ 1048576) (k : Nat) (hk : 1048577 < k) :
    ∃ r, laws_szEntryS.f k l left = some r ∧ -1 ≤ r ∧ r ≤ left ∧ (0 ≤ r → l.length ≤ 1048576 ∧ ∀ x ∈ l, x.f1.size ≤ 1048576) := by
  unfold laws_szEntryS.f maxLen at *
  rw [w64 (n := left - (l.length : Int)) (by omega) (by omega)]
  by_cases h : left - (l.length : Int) < 0
  · rw [if_pos h]; exact ⟨-1, rfl, by omega, by omega, fun h => by omega⟩
  · rw [if_neg h]
    obtain ⟨r, e, r0, r1, r2⟩ := laws_szEntryS_run l [] k (left - (l.length : Int)) (by simp; omega) (fun x hx => by have := hg x hx; (unfold maxLen; exact this)) (by omega) (by omega) (by omega)
    refine ⟨r, by simpa using e, r0, by omega, fun hr => ⟨by omega, fun x hx => ?_⟩⟩
    have := r2 hr x hx
    omega
def cvEntry (x : S139) : S117 := ⟨x.f0, x.f1⟩
theorem laws_toEntryS_run : ∀ (b a : List S139) (k : Nat), a.length + b.length ≤ 1048576 → b.length < k →
    laws_toEntryS.l0 k (a ++ b) (a.map cvEntry ++ List.replicate b.length z117) (a.length : Int) = some ((a ++ b).map cvEntry) := by
  intro b
  induction b with
  | nil =>
    intro a k h0 hk
    obtain ⟨q, rfl⟩ : ∃ m, k = m + 1 := ⟨k - 1, by omega⟩
    simp only [laws_toEntryS.l0]
    rw [if_neg (by simp)]; simp
  | cons x b ih =>
    intro a k h0 hk
    simp only [List.length_cons] at h0 hk
    obtain ⟨q, rfl⟩ : ∃ m, k = m + 1 := ⟨k - 1, by omega⟩
    simp only [laws_toEntryS.l0]
    rw [if_pos (by simp; omega), if_pos (by omega), rdA139]
    simp only [laws_toEntry.f, Option.bind_some]
    rw [if_pos (by simp; omega), w64 (n := (a.length : Int) + 1) (by omega) (by omega), List.length_cons, List.replicate_succ]
    have hs := setA117 (a.map cvEntry) z117 (cvEntry x) (List.replicate b.length z117)
    rw [List.length_map] at hs
    rw [show (⟨x.f0, x.f1⟩ : S117) = cvEntry x from rfl, hs]
    have f := ih (a ++ [x]) q (by simp; omega) (by omega)
    rw [List.append_assoc, List.singleton_append, show (((a ++ [x]).length : Nat) : Int) = (a.length : Int) + 1 by simp, List.map_append, List.map_singleton, List.append_assoc, List.singleton_append] at f
    exact f
theorem laws_toEntryS_f (l : List S139) (hl : l.length ≤ 1048576) (k : Nat) (hk : l.length < k) : laws_toEntryS.f k l = some (l.map cvEntry) := by
  unfold laws_toEntryS.f
  rw [if_pos (by omega), show ((l.length : Int)).toNat = l.length by omega, if_pos (by omega)]
  have := laws_toEntryS_run l [] k (by simp; omega) hk
  simpa using this
theorem laws_eqEntry_f (a0 : Int) (a1 : ByteArray) : laws_eqEntry.f a0 a1 a0 a1 = some true := by unfold laws_eqEntry.f; simp
theorem laws_eqEntryS_run (l : List S117) (hl : l.length ≤ 1099511627776) : ∀ (d k : Nat) (i : Int), 0 ≤ i → i + d = l.length → d < k → laws_eqEntryS.l0 k l l i = some true := by
  intro d
  induction d with
  | zero =>
    intro k i h0 h1 hk
    obtain ⟨q, rfl⟩ : ∃ m, k = m + 1 := ⟨k - 1, by omega⟩
    simp only [laws_eqEntryS.l0]; rw [if_neg (by omega)]
  | succ d ih =>
    intro k i h0 h1 hk
    obtain ⟨q, rfl⟩ : ∃ m, k = m + 1 := ⟨k - 1, by omega⟩
    simp only [laws_eqEntryS.l0]
    rw [if_pos (by omega), if_pos h0, if_pos (by omega), laws_eqEntry_f, w64 (n := i + 1) (by omega) (by omega)]
    simp only [Option.bind_some]
    rw [if_pos trivial, ih q (i + 1) (by omega) (by omega) (by omega)]
theorem laws_eqEntryS_f (l : List S117) (hl : l.length ≤ 1099511627776) (k : Nat) (hk : l.length < k) : laws_eqEntryS.f k l l = some true := by
  unfold laws_eqEntryS.f; rw [if_pos rfl]; exact laws_eqEntryS_run l hl l.length k 0 (by omega) (by omega) hk

/-! WalOk -/
def termsM : Int → Int → List S117 → Bool
  | _, _, [] => true
  | low, hi, e :: r => decide (1 ≤ e.f0 ∧ low ≤ e.f0 ∧ e.f0 ≤ hi ∧ e.f1.size ≤ 900) && termsM e.f0 hi r
def walOkM (t v b bt : Int) (l : List S117) : Bool := decide (0 ≤ t ∧ t ≤ 100000 ∧ -1 ≤ v ∧ v ≤ 4 ∧ placeM b bt = true ∧ bt ≤ t ∧ l.length ≤ 60 ∧ b + l.length ≤ 100000) && termsM bt t l

theorem spec_WalOk_run (t v bs bt : Int) : ∀ (b a : List S117) (k : Nat) (low : Int), a.length + b.length ≤ 1048576 → b.length < k →
    spec_WalOk.l0 k low (a.length : Int) t v bs bt (a ++ b) = some (termsM low t b) := by
  intro b
  induction b with
  | nil =>
    intro a k low h0 hk
    obtain ⟨q, rfl⟩ : ∃ m, k = m + 1 := ⟨k - 1, by omega⟩
    simp only [spec_WalOk.l0]; rw [if_neg (by simp)]; rfl
  | cons x b ih =>
    intro a k low h0 hk
    simp only [List.length_cons] at h0 hk
    obtain ⟨q, rfl⟩ : ∃ m, k = m + 1 := ⟨k - 1, by omega⟩
    have f := ih (a ++ [x]) q x.f0 (by simp; omega) (by omega)
    rw [List.append_assoc, List.singleton_append, show (((a ++ [x]).length : Nat) : Int) = (a.length : Int) + 1 by simp] at f
    simp only [spec_WalOk.l0, rdA117, termsM]
    rw [if_pos (by simp; omega), if_pos (by omega), w64 (n := (a.length : Int) + 1) (by omega) (by omega), f]
    by_cases h : 1 ≤ x.f0 ∧ low ≤ x.f0 ∧ x.f0 ≤ t ∧ x.f1.size ≤ 900
    · rw [if_neg (by omega), if_neg (by omega), if_neg (by omega), if_neg (by omega), decide_eq_true h, Bool.true_and]
    · rw [decide_eq_false h, Bool.false_and]
      repeat' split
      all_goals (first | rfl | (exfalso; omega))

theorem spec_WalOk_f (t v b bt : Int) (l : List S117) (hl : l.length ≤ 1048576) (k : Nat) (hk : 1048578 < k) : spec_WalOk.f k t v b bt l = some (walOkM t v b bt l) := by
  obtain ⟨q, rfl⟩ : ∃ m, k = m + 1 := ⟨k - 1, by omega⟩
  have f := spec_WalOk_run t v b bt l [] q bt (by simp; omega) (by omega)
  simp only [List.nil_append, List.length_nil] at f
  unfold spec_WalOk.f walOkM
  simp only [spec_l1In_run, spec_l5Based_run, Option.bind_some, decide_eq_true_eq, spec_WalOk.j0]
  by_cases h1 : 0 ≤ t ∧ t ≤ 100000
  · rw [if_pos h1]
    by_cases h2 : -1 ≤ v ∧ v ≤ 4
    · rw [if_pos h2]
      by_cases h3 : placeM b bt = true
      · have hb : 0 ≤ b ∧ b ≤ 100000 := by unfold placeM at h3; simp only [decide_eq_true_eq] at h3; omega
        rw [if_pos h3]
        by_cases h4 : bt > t
        · rw [if_pos h4, if_pos trivial, decide_eq_false (by omega), Bool.false_and]
        · rw [if_neg h4]
          by_cases h5 : (l.length : Int) > 60
          · rw [if_pos h5, if_pos trivial, decide_eq_false (by omega), Bool.false_and]
          · rw [if_neg h5, w64 (by omega) (by omega)]
            by_cases h6 : b + (l.length : Int) > 100000
            · rw [if_pos h6, decide_eq_false (by omega), Bool.false_and]
            · rw [if_neg h6, decide_eq_true ⟨h1.1, h1.2, h2.1, h2.2, h3, by omega, by omega, by omega⟩, Bool.true_and]
              exact f
      · rw [if_neg h3, if_pos trivial, decide_eq_false (fun g => h3 g.2.2.2.2.1), Bool.false_and]
    · rw [if_neg h2, if_pos trivial, decide_eq_false (fun g => h2 ⟨g.2.2.1, g.2.2.2.1⟩), Bool.false_and]
  · rw [if_neg h1, if_pos trivial, decide_eq_false (fun g => h1 ⟨g.1, g.2.1⟩), Bool.false_and]

theorem impl_termsOk_run (hi : Int) : ∀ (b a : List S117) (k : Nat) (low : Int), a.length + b.length ≤ 1048576 → b.length < k →
    impl_termsOk.l0 k low hi (a ++ b) ((a ++ b).length : Int) (a.length : Int) = some (termsM low hi b) := by
  intro b
  induction b with
  | nil =>
    intro a k low h0 hk
    obtain ⟨q, rfl⟩ : ∃ m, k = m + 1 := ⟨k - 1, by omega⟩
    simp only [impl_termsOk.l0]; rw [if_neg (by simp)]; rfl
  | cons x b ih =>
    intro a k low h0 hk
    simp only [List.length_cons] at h0 hk
    obtain ⟨q, rfl⟩ : ∃ m, k = m + 1 := ⟨k - 1, by omega⟩
    have f := ih (a ++ [x]) q x.f0 (by simp; omega) (by omega)
    rw [List.append_assoc, List.singleton_append, show (((a ++ [x]).length : Nat) : Int) = (a.length : Int) + 1 by simp] at f
    simp only [impl_termsOk.l0, rdA117, termsM, impl_from_run, Option.bind_some, decide_eq_true_eq]
    rw [if_pos (by simp; omega), if_pos (by omega), if_pos (by simp; omega), w64 (n := (a.length : Int) + 1) (by omega) (by omega), f]
    by_cases h : 1 ≤ x.f0 ∧ low ≤ x.f0 ∧ x.f0 ≤ hi ∧ x.f1.size ≤ 900
    · rw [if_neg (by omega), if_pos (by omega), if_neg (by omega), decide_eq_true h, Bool.true_and]
    · rw [decide_eq_false h, Bool.false_and]
      repeat' split
      all_goals (first | rfl | (exfalso; omega))
theorem impl_WalOk_f (t v b bt : Int) (l : List S117) (hl : l.length ≤ 1048576) (k : Nat) (hk : 1048578 < k) : impl_WalOk.f k t v b bt l = some (walOkM t v b bt l) := by
  have f := impl_termsOk_run t l [] k bt (by simp; omega) (by omega)
  simp only [List.nil_append, List.length_nil] at f
  unfold impl_WalOk.f walOkM impl_termsOk.f
  rw [show ((0 : Nat) : Int) = 0 from rfl] at f
  simp only [impl_from_run, impl_isVote_run, impl_isPlace_run, Option.bind_some, decide_eq_true_eq, f]
  by_cases h1 : 0 ≤ t ∧ t ≤ 100000
  · rw [if_pos h1]
    by_cases h2 : -1 ≤ v ∧ v ≤ 4
    · rw [if_pos h2]
      by_cases h3 : placeM b bt = true
      · have hb : 0 ≤ b ∧ b ≤ 100000 := by unfold placeM at h3; simp only [decide_eq_true_eq] at h3; omega
        rw [if_pos h3]
        by_cases h4 : bt ≤ t
        · rw [if_pos h4]
          by_cases h5 : (l.length : Int) ≤ 60
          · rw [if_pos h5, w64 (by omega) (by omega)]
            by_cases h6 : b + (l.length : Int) ≤ 100000
            · rw [decide_eq_true h6, decide_eq_true ⟨h1.1, h1.2, h2.1, h2.2, h3, h4, by omega, h6⟩, Bool.true_and]
              cases termsM bt t l <;> simp
            · rw [decide_eq_false h6, decide_eq_false (fun g => h6 g.2.2.2.2.2.2.2), Bool.false_and]
              cases termsM bt t l <;> simp
          · rw [if_neg h5, decide_eq_false (by omega), Bool.false_and]
        · rw [if_neg h4, decide_eq_false (by omega), Bool.false_and]
      · rw [if_neg h3, decide_eq_false (fun g => h3 g.2.2.2.2.1), Bool.false_and]
    · rw [if_neg h2, decide_eq_false (fun g => h2 ⟨g.2.2.1, g.2.2.2.1⟩), Bool.false_and]
  · rw [if_neg h1, decide_eq_false (fun g => h1 ⟨g.1, g.2.1⟩), Bool.false_and]

/-! the laws' own functions of a Wal -/
theorem laws_szWal_f (t v b bt : Int) (l : List S139) (left : Int) (hl : l.length ≤ maxLen) (hg : ∀ x ∈ l, x.f1.size ≤ maxLen) (l0 : 0 ≤ left) (l1 : left ≤ 1048576) (k : Nat) (hk : 1048577 < k) :
    ∃ r, laws_szWal.f k t v b bt l left = some r ∧ -1 ≤ r ∧ r ≤ left ∧ (0 ≤ r → l.length ≤ 1048576 ∧ ∀ x ∈ l, x.f1.size ≤ 1048576) := by
  obtain ⟨r, e, r0, r1, r2⟩ := laws_szEntryS_f l left hl hg l0 l1 k hk
  unfold laws_szWal.f
  rw [e]; simp only [Option.bind_some]
  split
  · exact ⟨-1, rfl, by omega, by omega, fun h => by omega⟩
  · exact ⟨r, rfl, r0, r1, r2⟩
theorem laws_toWal_f (t v b bt : Int) (l : List S139) (hl : l.length ≤ 1048576) (k : Nat) (hk : 1048577 < k) : laws_toWal.f k t v b bt l = some (t, v, b, bt, l.map cvEntry) := by
  unfold laws_toWal.f; rw [laws_toEntryS_f l hl k (by omega)]; rfl
theorem laws_eqWal_f (t v b bt : Int) (l : List S117) (hl : l.length ≤ 1048576) (k : Nat) (hk : 1048577 < k) : laws_eqWal.f k t v b bt l t v b bt l = some true := by
  unfold laws_eqWal.f; rw [laws_eqEntryS_f l (by omega) k (by omega)]; simp

/-! records of entries -/
def recT : Int → List S117 → List Int
  | _, [] => []
  | n, e :: r => frameM (showRecM 2 e.f0 n 0 e.f1) ++ recT (n + 1) r
def walTextM (t v b bt : Int) (l : List S117) : List Int := if walOkM t v b bt l = true then frameM (showRecM 4 bt b 0 ⟨#[]⟩) ++ frameM (showRecM 1 t 0 v ⟨#[]⟩) ++ recT (b + 1) l else []
theorem showRecM_length (k t i v : Int) (d : ByteArray) : (showRecM k t i v d).length ≤ 922 := by
  unfold showRecM
  split
  · rename_i h
    have h1 := (rec_small h).2.1
    have l1 := varM_length t
    have l2 := varM_length i
    have l3 := varM_length (v + 1)
    simp only [List.length_append, List.length_cons, List.length_nil, bytesOf_length]
    omega
  · simp
theorem frameRec_length (k t i v : Int) (d : ByteArray) : (frameM (showRecM k t i v d)).length ≤ 930 := by
  have h := showRecM_length k t i v d
  by_cases h0 : 1 ≤ (showRecM k t i v d).length
  · rw [frameM_length h0 (by omega)]; omega
  · unfold frameM; rw [if_neg (by omega)]; simp

theorem spec_recFrame (k t i v : Int) (d : ByteArray) (f : Nat) (hf : 21000 < f) : ((spec_ShowRec.f f k t i v d).bind fun x => spec_Frame.f f x) = some (strOfNums (frameM (showRecM k t i v d))) := by
  have h := showRecM_length k t i v d
  rw [spec_ShowRec_f _ _ _ _ _ _ (by omega)]
  simp only [Option.bind_some]
  rw [spec_Frame_f _ (by rw [size_strOfNums]; omega) _ hf, bytesOf_strOfNums (showRecM_byt _ _ _ _ _)]
theorem spec_WalText_run (t v bs bt : Int) (hb0 : 0 ≤ bs) (hb : bs ≤ 100000) : ∀ (b a : List S117) (k : Nat) (s : List Int), a.length + b.length ≤ 100 → s.length ≤ 930 * (a.length + 2) → b.length + 21002 < k →
    spec_WalText.l0 k (strOfNums s) (a.length : Int) t v bs bt (a ++ b) = some (strOfNums (s ++ recT (bs + 1 + a.length) b)) := by
  intro b
  induction b with
  | nil =>
    intro a k s h0 hs hk
    obtain ⟨q, rfl⟩ : ∃ m, k = m + 1 := ⟨k - 1, by omega⟩
    simp only [spec_WalText.l0]; rw [if_neg (by simp)]; simp [recT]
  | cons x b ih =>
    intro a k s h0 hs hk
    simp only [List.length_cons] at h0 hk
    obtain ⟨q, rfl⟩ : ∃ m, k = m + 1 := ⟨k - 1, by omega⟩
    have lf := frameRec_length 2 x.f0 (bs + 1 + a.length) 0 x.f1
    have f := ih (a ++ [x]) q (s ++ frameM (showRecM 2 x.f0 (bs + 1 + a.length) 0 x.f1)) (by simp; omega) (by simp; omega) (by omega)
    rw [List.append_assoc, List.singleton_append, show (((a ++ [x]).length : Nat) : Int) = (a.length : Int) + 1 by simp] at f
    have hr := spec_recFrame 2 x.f0 (bs + 1 + a.length) 0 x.f1 q (by omega)
    rw [spec_ShowRec_f _ _ _ _ _ _ (by omega)] at hr
    simp only [Option.bind_some] at hr
    simp only [spec_WalText.l0]
    rw [if_pos (by simp only [List.length_append, List.length_cons]; omega), if_pos (by omega), rdA117, w64 (n := bs + 1) (by omega) (by omega), w64 (n := bs + 1 + (a.length : Int)) (by omega) (by omega), spec_ShowRec_f _ _ _ _ _ _ (by omega)]
    simp only [Option.bind_some]
    rw [hr]
    simp only [Option.bind_some]
    rw [if_pos (by rw [size_strOfNums, size_strOfNums]; omega), w64 (n := (a.length : Int) + 1) (by omega) (by omega), strOfNums_append, f, recT, List.append_assoc, show bs + 1 + ((a.length : Int) + 1) = bs + 1 + a.length + 1 by omega]
theorem walOk_small {t v b bt : Int} {l : List S117} (h : walOkM t v b bt l = true) : 0 ≤ b ∧ b ≤ 100000 ∧ l.length ≤ 60 := by
  unfold walOkM at h
  simp only [Bool.and_eq_true, decide_eq_true_eq] at h
  have h3 := h.1.2.2.2.2.1
  unfold placeM at h3
  simp only [decide_eq_true_eq] at h3
  omega
theorem spec_WalText_f (t v b bt : Int) (l : List S117) (hl : l.length ≤ 1048576) (k : Nat) (hk : 1048600 < k) : spec_WalText.f k t v b bt l = some (strOfNums (walTextM t v b bt l)) := by
  unfold spec_WalText.f walTextM
  rw [spec_WalOk_f _ _ _ _ _ hl _ (by omega)]
  simp only [Option.bind_some]
  by_cases h : walOkM t v b bt l = true
  · obtain ⟨b0, b1, l1⟩ := walOk_small h
    have lf1 := frameRec_length 4 bt b 0 ⟨#[]⟩
    have lf2 := frameRec_length 1 t 0 v ⟨#[]⟩
    have hr1 := spec_recFrame 4 bt b 0 ⟨#[]⟩ k (by omega)
    have hr2 := spec_recFrame 1 t 0 v ⟨#[]⟩ k (by omega)
    rw [spec_ShowRec_f _ _ _ _ _ _ (by omega)] at hr1 hr2
    simp only [Option.bind_some] at hr1 hr2
    have f := spec_WalText_run t v b bt b0 b1 l [] k (frameM (showRecM 4 bt b 0 ⟨#[]⟩) ++ frameM (showRecM 1 t 0 v ⟨#[]⟩)) (by simp; omega) (by simp; omega) (by omega)
    simp only [List.nil_append, List.length_nil] at f
    rw [if_pos h, if_pos h, spec_ShowRec_f _ _ _ _ _ _ (by omega)]
    simp only [Option.bind_some]
    rw [hr1]
    simp only [Option.bind_some]
    rw [spec_ShowRec_f _ _ _ _ _ _ (by omega)]
    simp only [Option.bind_some]
    rw [hr2]
    simp only [Option.bind_some]
    rw [if_pos (by rw [size_strOfNums, size_strOfNums]; omega), strOfNums_append]
    refine Eq.trans f ?_
    simp
  · rw [if_neg h, if_neg h]; rfl

theorem impl_recFrame (k t i v : Int) (d : ByteArray) (f : Nat) (hf : 21000 < f) : impl_Frame.f f (strOfNums (showRecM k t i v d)) = some (strOfNums (frameM (showRecM k t i v d))) := by
  have h := showRecM_length k t i v d
  rw [impl_Frame_f _ (by rw [size_strOfNums]; omega) _ hf, bytesOf_strOfNums (showRecM_byt _ _ _ _ _)]
def rtM : List S83 → List Int
  | [] => []
  | r :: rs => frameM (showRecM r.f0 r.f1 r.f2 r.f3 r.f4) ++ rtM rs
def recsM : Int → List S117 → List S83
  | _, [] => []
  | n, e :: r => ⟨2, e.f0, n, 0, e.f1⟩ :: recsM (n + 1) r
theorem recsM_length : ∀ (l : List S117) (n : Int), (recsM n l).length = l.length
  | [], _ => rfl
  | e :: r, n => by simp [recsM, recsM_length r]
theorem rtM_recsM : ∀ (l : List S117) (n : Int), rtM (recsM n l) = recT n l
  | [], _ => rfl
  | e :: r, n => by simp only [recsM, rtM, recT, rtM_recsM r]
theorem rdR (a : List S83) (x : S83) (b : List S83) : rd_T83 (a ++ x :: b) (a.length : Int) = x := by simp [rd_T83, List.getD]
theorem impl_recsText_run : ∀ (b a : List S83) (k : Nat) (s : List Int), a.length + b.length ≤ 200 → s.length ≤ 930 * a.length → b.length + 21002 < k →
    impl_recsText.l0 k (strOfNums s) (a ++ b) ((a ++ b).length : Int) (a.length : Int) = some (strOfNums (s ++ rtM b)) := by
  intro b
  induction b with
  | nil =>
    intro a k s h0 hs hk
    obtain ⟨q, rfl⟩ : ∃ m, k = m + 1 := ⟨k - 1, by omega⟩
    simp only [impl_recsText.l0]; rw [if_neg (by simp)]; simp [rtM]
  | cons x b ih =>
    intro a k s h0 hs hk
    simp only [List.length_cons] at h0 hk
    obtain ⟨q, rfl⟩ : ∃ m, k = m + 1 := ⟨k - 1, by omega⟩
    have lf := frameRec_length x.f0 x.f1 x.f2 x.f3 x.f4
    have f := ih (a ++ [x]) q (s ++ frameM (showRecM x.f0 x.f1 x.f2 x.f3 x.f4)) (by simp; omega) (by simp; omega) (by omega)
    rw [List.append_assoc, List.singleton_append, show (((a ++ [x]).length : Nat) : Int) = (a.length : Int) + 1 by simp] at f
    have hz : (a.length : Int) < ((a ++ x :: b).length : Int) := by simp only [List.length_append, List.length_cons]; omega
    simp only [impl_recsText.l0]
    rw [if_pos hz, if_pos (by omega), if_pos hz, rdR, impl_ShowRec_f _ _ _ _ _ _ (by omega)]
    simp only [Option.bind_some]
    rw [impl_recFrame _ _ _ _ _ _ (by omega)]
    simp only [Option.bind_some]
    rw [if_pos (by rw [size_strOfNums, size_strOfNums]; omega), w64 (n := (a.length : Int) + 1) (by omega) (by omega), strOfNums_append, f, rtM, List.append_assoc]
theorem impl_recsText_f (l : List S83) (hl : l.length ≤ 200) (k : Nat) (hk : 21300 < k) : impl_recsText.f k l = some (strOfNums (rtM l)) := by
  unfold impl_recsText.f
  have f := impl_recsText_run l [] k [] (by simp; omega) (by simp) (by omega)
  simp only [List.nil_append, List.length_nil] at f
  exact f
theorem impl_entryRecs_run (n : Int) (h0 : 0 ≤ n) (h1 : n ≤ 300000) : ∀ (b a : List S117) (k : Nat) (o : List S83), a.length + b.length ≤ 100 → o.length ≤ a.length → b.length < k →
    impl_entryRecs.l0 k n o (a ++ b) ((a ++ b).length : Int) (a.length : Int) = some (o ++ recsM (n + a.length) b) := by
  intro b
  induction b with
  | nil =>
    intro a k o g0 g1 hk
    obtain ⟨q, rfl⟩ : ∃ m, k = m + 1 := ⟨k - 1, by omega⟩
    simp only [impl_entryRecs.l0]; rw [if_neg (by simp)]; simp [recsM]
  | cons x b ih =>
    intro a k o g0 g1 hk
    simp only [List.length_cons] at g0 hk
    obtain ⟨q, rfl⟩ : ∃ m, k = m + 1 := ⟨k - 1, by omega⟩
    have f := ih (a ++ [x]) q (o ++ [⟨2, x.f0, n + a.length, 0, x.f1⟩]) (by simp; omega) (by simp; omega) (by omega)
    rw [List.append_assoc, List.singleton_append, show (((a ++ [x]).length : Nat) : Int) = (a.length : Int) + 1 by simp] at f
    have hz : (a.length : Int) < ((a ++ x :: b).length : Int) := by simp only [List.length_append, List.length_cons]; omega
    simp only [impl_entryRecs.l0, rdA117]
    rw [if_pos hz, if_pos (by omega), if_pos hz, if_pos (by omega), w64 (n := n + (a.length : Int)) (by omega) (by omega), w64 (n := (a.length : Int) + 1) (by omega) (by omega), f, recsM, List.append_assoc, List.singleton_append, show n + ((a.length : Int) + 1) = n + a.length + 1 by omega]
theorem impl_entryRecs_f (l : List S117) (hl : l.length ≤ 100) (n : Int) (h0 : 0 ≤ n) (h1 : n ≤ 300000) (k : Nat) (hk : 101 < k) : impl_entryRecs.f k l n = some (recsM n l) := by
  unfold impl_entryRecs.f
  have f := impl_entryRecs_run n h0 h1 l [] k [] (by simp; omega) (by simp) (by omega)
  simp only [List.nil_append, List.length_nil] at f
  refine Eq.trans f ?_
  simp

theorem impl_WalText_f (t v b bt : Int) (l : List S117) (hl : l.length ≤ 1048576) (k : Nat) (hk : 1048600 < k) : impl_WalText.f k t v b bt l = some (strOfNums (walTextM t v b bt l)) := by
  unfold impl_WalText.f walTextM
  rw [impl_WalOk_f _ _ _ _ _ hl _ (by omega)]
  simp only [Option.bind_some]
  by_cases h : walOkM t v b bt l = true
  · obtain ⟨b0, b1, l1⟩ := walOk_small h
    have lr := recsM_length l (b + 1)
    rw [if_pos h, if_pos h, w64 (by omega) (by omega), impl_entryRecs_f l (by omega) _ (by omega) (by omega) _ (by omega)]
    simp only [Option.bind_some]
    rw [if_pos (by simp only [List.length_cons, List.length_nil]; omega), impl_recsText_f _ (by simp only [List.length_append, List.length_cons, List.length_nil]; omega) _ (by omega)]
    simp only [Option.bind_some, List.cons_append, List.nil_append, rtM, rtM_recsM, List.append_assoc]
  · rw [if_neg h, if_neg h]; rfl

theorem FnExactWalText (a0_0 : Int) (a0_1 : Int) (a0_2 : Int) (a0_3 : Int) (l0_4 : List S139) (w0_0 : (Lit.int .i64 a0_0).wf = true) (w0_1 : (Lit.int .i64 a0_1).wf = true) (w0_2 : (Lit.int .i64 a0_2).wf = true) (w0_3 : (Lit.int .i64 a0_3).wf = true) (m0_4 : l0_4.length ≤ maxLen) (g0_4 : ∀ z ∈ l0_4, (Lit.int .i64 z.f0).wf = true ∧ z.f1.size ≤ maxLen) : ∃ k, laws_FnExactWalText.f k a0_0 a0_1 a0_2 a0_3 l0_4 = some true := by
  refine ⟨1048700, ?_⟩
  unfold laws_FnExactWalText.f
  obtain ⟨r, e, r0, r1, r2⟩ := laws_szWal_f a0_0 a0_1 a0_2 a0_3 l0_4 1048576 m0_4 (fun x hx => (g0_4 x hx).2) (by omega) (by omega) 1048700 (by omega)
  rw [e]; simp only [Option.bind_some]
  split
  · rfl
  · obtain ⟨hl, hs⟩ := r2 (by omega)
    have hm : (l0_4.map cvEntry).length ≤ 1048576 := by rw [List.length_map]; exact hl
    rw [laws_toWal_f _ _ _ _ _ hl _ (by omega)]
    simp only [Option.bind_some]
    rw [spec_WalText_f _ _ _ _ _ hm _ (by omega), impl_WalText_f _ _ _ _ _ hm _ (by omega)]
    simp only [Option.bind_some, if_true]
    rw [laws_eqWal_f _ _ _ _ _ hm _ (by omega)]
    rfl

end Go.Proofs.Ytfmddjbekophnaa.Pure
