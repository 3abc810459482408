/- The plan that adds to a log is that of the reference. -/
import Derived.Test.YtfmddjbekophnaaPFnExactPlanAddx1
import Derived.Test.YtfmddjbekophnaaPFnExactPlanAddx2
import Derived.Test.YtfmddjbekophnaaPFnExactPlanAddx3
import Derived.Test.YtfmddjbekophnaaPFnExactPlanAddx4
import Derived.Test.YtfmddjbekophnaaPFnExactPlanAddx5
import Derived.Test.YtfmddjbekophnaaPFnExactPlanAddx6
import Derived.Test.YtfmddjbekophnaaPFnExactPlanAddx7
import Derived.Test.YtfmddjbekophnaaPFnExactPlanAddx8
import Derived.Test.YtfmddjbekophnaaPFnExactPlanAddx9
import Derived.Test.YtfmddjbekophnaaPFnExactPlanAddx10
import Derived.Test.YtfmddjbekophnaaPFnExactPlanAddx11
import Derived.Test.YtfmddjbekophnaaPFnExactPlanAddx12
import Derived.Test.YtfmddjbekophnaaPFnExactPlanAddx13
import Derived.Test.YtfmddjbekophnaaPFnExactPlanAddx14
import Derived.Test.YtfmddjbekophnaaPFnExactPlanAddx15
import Derived.Test.YtfmddjbekophnaaPFnExactPlanAddx16
import Derived.Test.YtfmddjbekophnaaBase
import Derived.Test.YtfmddjbekophnaaNum
import Derived.Test.YtfmddjbekophnaaNumCrc
import Derived.Test.YtfmddjbekophnaaNumFrame
import Derived.Test.YtfmddjbekophnaaNumRec
import Derived.Test.YtfmddjbekophnaaNumDec
namespace Go.Proofs.Ytfmddjbekophnaa.Pure
open Go.RowKit Go.Proofs.Ytfmddjbekophnaa.PFnExactPlanAdd Go.Proofs.YtfmddjbekophnaaW.PrintWords Go.Proofs.YtfmddjbekophnaaW.PrintLast Go.Proofs.YtfmddjbekophnaaW.PrintMore Go.Proofs.Ytfmddjbekophnaa.Base
set_option linter.unusedVariables false
set_option linter.unusedSimpArgs false

/-! ranges -/
theorem spec_l1In_run (a b c : Int) : spec_l1In.f a b c = some (decide (b ≤ a ∧ a ≤ c)) := by
  unfold spec_l1In.f
  by_cases h : a ≥ b
  · rw [if_pos h]; congr 1; simp [show b ≤ a from h]
  · rw [if_neg h]; congr 1; simp; omega

theorem impl_from_run (a b c : Int) : impl_from.f a b c = some (decide (b ≤ a ∧ a ≤ c)) := by
  unfold impl_from.f
  by_cases h : a ≥ b
  · rw [if_pos h]; congr 1; simp [show b ≤ a from h]
  · rw [if_neg h]; congr 1; simp; omega

/-! Fixed -/
def fixM (n w : Int) : List Int := if 1 ≤ w ∧ w ≤ 7 ∧ 0 ≤ n ∧ n < 256 ^ w.toNat then fixL w.toNat n else []

theorem spec_Fixed_run (w : Int) (hw : w ≤ 7) : ∀ (d k : Nat) (n i : Int) (out : ByteArray), 0 ≤ i → i + d = w → 0 ≤ n → n ≤ 9223372036854775807 → out.size = i.toNat → d < k →
    spec_Fixed.l0 k n w out i = some (if n / 256 ^ d > 0 then (⟨#[]⟩ : ByteArray) else strOfNums (fixL d n) ++ out) := by
  intro d
  induction d with
  | zero =>
    intro k n i out h0 h1 n0 n1 ho hk
    obtain ⟨k, rfl⟩ : ∃ m, k = m + 1 := ⟨k - 1, by omega⟩
    simp only [spec_Fixed.l0]
    rw [if_neg (by omega)]
    have e : strOfNums (fixL 0 n) ++ out = out := bytesOf_inj (by rw [bytesOf_append, bytesOf_strOfNums (fixL_byt _ _)]; rfl)
    rw [e]
    simp only [Int.pow_zero, Int.ediv_one]
    split <;> rfl
  | succ d ih =>
    intro k n i out h0 h1 n0 n1 ho hk
    obtain ⟨k, rfl⟩ : ∃ m, k = m + 1 := ⟨k - 1, by omega⟩
    simp only [spec_Fixed.l0, Option.bind_some]
    rw [if_pos (by omega), size_strOfNums, if_pos (by simp; omega), tmod_nn n0, tdiv_nn n0, w64 (n := n / 256) (by omega) (by omega), w64 (n := i + 1) (by omega) (by omega)]
    rw [ih k (n / 256) (i + 1) _ (by omega) (by omega) (by omega) (by omega) (by rw [ByteArray.size_append, size_strOfNums, ho]; simp; omega) (by omega), div_pow_succ]
    have e : strOfNums (fixL d (n / 256)) ++ (strOfNums [n % 256 % 256] ++ out) = strOfNums (fixL (d + 1) n) ++ out := by
      rw [fixL, ← strOfNums_append, ByteArray.append_assoc, show n % 256 % 256 = n % 256 by omega]
    rw [e]

theorem spec_Fixed_f (n w : Int) (n1 : n ≤ 9223372036854775807) (k : Nat) (hk : 8 < k) : spec_Fixed.f k n w = some (strOfNums (fixM n w)) := by
  unfold spec_Fixed.f fixM
  rw [spec_l1In_run]; simp only [Option.bind_some, decide_eq_true_eq]
  obtain ⟨k, rfl⟩ : ∃ m, k = m + 1 := ⟨k - 1, by omega⟩
  by_cases h : 1 ≤ w ∧ w ≤ 7
  · rw [if_pos h]
    simp only [spec_Fixed.j0, decide_eq_true_eq]
    by_cases h2 : n < 0
    · rw [if_pos h2, if_neg (by omega)]; rfl
    · rw [if_neg h2, spec_Fixed_run w h.2 w.toNat k n 0 _ (by omega) (by omega) (by omega) (by omega) rfl (by omega)]
      have hp := pow256_pos w.toNat
      by_cases h3 : n < 256 ^ w.toNat
      · have hc : 1 ≤ w ∧ w ≤ 7 ∧ 0 ≤ n ∧ n < 256 ^ w.toNat := ⟨h.1, h.2, by omega, h3⟩
        rw [if_pos hc, Int.ediv_eq_zero_of_lt (by omega) h3, if_neg (by omega)]
        congr 1
        exact bytesOf_inj (by rw [bytesOf_append]; simp [bytesOf])
      · have hc : ¬ (1 ≤ w ∧ w ≤ 7 ∧ 0 ≤ n ∧ n < 256 ^ w.toNat) := fun hc => h3 hc.2.2.2
        have hd := div_ge_one hp (show 256 ^ w.toNat ≤ n by omega)
        rw [if_neg hc, if_pos (by omega)]; rfl
  · rw [if_neg h, if_neg (by omega)]
    simp only [spec_Fixed.j0]; rfl

theorem impl_Fixed_run (n : Int) : ∀ (d k : Nat) (xs : List Int), d ≤ 7 → xs.length + d < 100 → d < k →
    impl_Fixed.l0 k n xs ((d : Int) - 1) = some (strOfNums (xs ++ fixL d n)) := by
  intro d
  induction d with
  | zero =>
    intro k xs h7 hx hk
    obtain ⟨k, rfl⟩ : ∃ m, k = m + 1 := ⟨k - 1, by omega⟩
    simp only [impl_Fixed.l0]
    rw [if_neg (by omega)]; simp [fixL]
  | succ d ih =>
    intro k xs h7 hx hk
    obtain ⟨k, rfl⟩ : ∃ m, k = m + 1 := ⟨k - 1, by omega⟩
    simp only [impl_Fixed.l0]
    rw [show ((d + 1 : Nat) : Int) - 1 = (d : Int) by omega, if_pos (by omega), w64 (n := 8 * (d : Int)) (by omega) (by omega), if_pos (by omega), if_pos (by omega), w64 (n := (d : Int) - 1) (by omega) (by omega), shr8 n (by omega) (by omega), ih k _ (by omega) (by simp; omega) (by omega), fixL_cons]
    simp

theorem impl_Fixed_f (n w : Int) (k : Nat) (hk : 8 < k) : impl_Fixed.f k n w = some (strOfNums (fixM n w)) := by
  unfold impl_Fixed.f fixM
  rw [impl_from_run]; simp only [Option.bind_some, decide_eq_true_eq]
  obtain ⟨k, rfl⟩ : ∃ m, k = m + 1 := ⟨k - 1, by omega⟩
  by_cases h : 1 ≤ w ∧ w ≤ 7
  · rw [if_pos h]
    by_cases h2 : n < 0
    · rw [if_pos h2, if_neg (by omega)]; simp only [impl_Fixed.j0]; rfl
    · rw [if_neg h2, w64 (n := 8 * w) (by omega) (by omega), if_pos (by omega), shr8 n (by omega) (by omega)]
      have hp := pow256_pos w.toNat
      simp only [impl_Fixed.j0, bne_iff_ne, ne_eq]
      by_cases h3 : n < 256 ^ w.toNat
      · have hc : 1 ≤ w ∧ w ≤ 7 ∧ 0 ≤ n ∧ n < 256 ^ w.toNat := ⟨h.1, h.2, by omega, h3⟩
        rw [if_pos hc, Int.ediv_eq_zero_of_lt (by omega) h3, if_neg (by simp), w64 (n := w - 1) (by omega) (by omega)]
        have := impl_Fixed_run n w.toNat k [] (by omega) (by simp; omega) (by omega)
        rw [show ((w.toNat : Nat) : Int) - 1 = w - 1 by omega] at this
        rw [this]; simp
      · have hc : ¬ (1 ≤ w ∧ w ≤ 7 ∧ 0 ≤ n ∧ n < 256 ^ w.toNat) := fun hc => h3 hc.2.2.2
        have hd := div_ge_one hp (show 256 ^ w.toNat ≤ n by omega)
        rw [if_neg hc, if_pos (by omega)]; rfl
  · rw [if_neg h, if_neg (by omega)]
    simp only [impl_Fixed.j0]; rfl

/-! Var -/
def varM (n : Int) : List Int := if 0 ≤ n ∧ n ≤ 562949953421311 then varN n.toNat else []
theorem varM_byt (n : Int) : Byt (varM n) := by
  unfold varM; split
  · exact varN_byt _
  · exact byt_nil

theorem spec_Var_run : ∀ (d k n : Nat) (xs : List Int), n < 128 ^ (d + 1) → d ≤ 7 → xs.length + d < 100 → d < k →
    spec_Var.l0 k (n : Int) xs = some (strOfNums (xs ++ varN n)) := by
  intro d
  induction d with
  | zero =>
    intro k n xs h0 h7 h1 hk
    obtain ⟨k, rfl⟩ : ∃ m, k = m + 1 := ⟨k - 1, by omega⟩
    simp only [spec_Var.l0]
    rw [if_neg (by omega), if_pos (by omega), varN_lt (by omega), show (n : Int) % 256 = n by omega]
  | succ d ih =>
    intro k n xs h0 h7 h1 hk
    obtain ⟨k, rfl⟩ : ∃ m, k = m + 1 := ⟨k - 1, by omega⟩
    simp only [spec_Var.l0]
    have hb : n < 128 ^ 9 := Nat.lt_of_lt_of_le h0 (Nat.pow_le_pow_right (by omega) (by omega))
    by_cases h : n < 128
    · rw [if_neg (by omega), if_pos (by omega), varN_lt h, show (n : Int) % 256 = n by omega]
    · rw [if_pos (by omega), if_pos (by omega), varN_ge h, tdiv_nn (by omega), tmod_nn (by omega), w64 (n := (n : Int) / 128) (by omega) (by omega), w64 (n := 128 + (n : Int) % 128) (by omega) (by omega)]
      have e : (n : Int) / 128 = ((n / 128 : Nat) : Int) := by omega
      rw [e, ih k (n / 128) _ (by rw [pow128] at h0; omega) (by omega) (by simp; omega) (by omega)]
      have e2 : (128 + (n : Int) % 128) % 256 = ((n % 128 + 128 : Nat) : Int) := by omega
      rw [e2]; simp

theorem spec_Var_f (n : Int) (k : Nat) (hk : 8 < k) : spec_Var.f k n = some (strOfNums (varM n)) := by
  unfold spec_Var.f varM
  rw [spec_l1In_run]; simp only [Option.bind_some, decide_eq_true_eq]
  by_cases h : 0 ≤ n ∧ n ≤ 562949953421311
  · rw [if_pos h, if_pos h]
    have := spec_Var_run 6 k n.toNat [] (by omega) (by omega) (by simp) (by omega)
    rw [show ((n.toNat : Nat) : Int) = n by omega] at this
    rw [this]; rfl
  · rw [if_neg h, if_neg h]; rfl

theorem impl_Var_run : ∀ (d k n : Nat) (xs : List Int), n < 128 ^ (d + 1) → d ≤ 7 → xs.length + d < 100 → d < k →
    impl_Var.l0 k (n : Int) xs = some (strOfNums (xs ++ varN n)) := by
  intro d
  induction d with
  | zero =>
    intro k n xs h0 h7 h1 hk
    obtain ⟨k, rfl⟩ : ∃ m, k = m + 1 := ⟨k - 1, by omega⟩
    simp only [impl_Var.l0]
    rw [if_neg (by omega), if_pos (by omega), varN_lt (by omega), show (n : Int) % 256 = n by omega]
  | succ d ih =>
    intro k n xs h0 h7 h1 hk
    obtain ⟨k, rfl⟩ : ∃ m, k = m + 1 := ⟨k - 1, by omega⟩
    simp only [impl_Var.l0]
    have hb : n < 128 ^ 9 := Nat.lt_of_lt_of_le h0 (Nat.pow_le_pow_right (by omega) (by omega))
    by_cases h : n < 128
    · rw [if_neg (by omega), if_pos (by omega), varN_lt h, show (n : Int) % 256 = n by omega]
    · rw [if_pos (by omega), if_pos (by omega), varN_ge h, tdiv_nn (by omega), tmod_nn (by omega), w64 (n := (n : Int) / 128) (by omega) (by omega), w64 (n := (n : Int) % 128 + 128) (by omega) (by omega)]
      have e : (n : Int) / 128 = ((n / 128 : Nat) : Int) := by omega
      rw [e, ih k (n / 128) _ (by rw [pow128] at h0; omega) (by omega) (by simp; omega) (by omega)]
      have e2 : ((n : Int) % 128 + 128) % 256 = ((n % 128 + 128 : Nat) : Int) := by omega
      rw [e2]; simp

theorem impl_Var_f (n : Int) (k : Nat) (hk : 8 < k) : impl_Var.f k n = some (strOfNums (varM n)) := by
  unfold impl_Var.f varM
  rw [impl_from_run]; simp only [Option.bind_some, decide_eq_true_eq]
  by_cases h : 0 ≤ n ∧ n ≤ 562949953421311
  · rw [if_pos h, if_pos h]
    have := impl_Var_run 6 k n.toNat [] (by omega) (by omega) (by simp) (by omega)
    rw [show ((n.toNat : Nat) : Int) = n by omega] at this
    rw [this]; rfl
  · rw [if_neg h, if_neg h]; rfl

/-! Crc -/
theorem spec_Crc_inner (s : ByteArray) (i : Int) : ∀ (d k : Nat) (j c : Int), j + d = 8 → 0 ≤ j → 0 ≤ c → c < 4294967296 →
    spec_Crc.l1 (k + d + 1) s c i j = spec_Crc.l0 k s (crcI d c) (wrap64 (i + 1)) := by
  intro d
  induction d with
  | zero =>
    intro k j c hj h0 c0 c1
    simp only [spec_Crc.l1]
    rw [if_neg (by omega)]; rfl
  | succ d ih =>
    intro k j c hj h0 c0 c1
    obtain ⟨q, hq⟩ : ∃ q, k + d + 1 = q := ⟨_, rfl⟩
    rw [show k + (d + 1) + 1 = q + 1 by omega]
    simp only [spec_Crc.l1]
    have hr := crc1_range c0 c1
    rw [if_pos (by omega), tmod_nn c0, tdiv_nn c0, w64 (n := c / 2) (by omega) (by omega), w64 (n := j + 1) (by omega) (by omega), crcI]
    by_cases h : c % 2 = 1
    · rw [if_pos h, bits_xor64 (by omega) (by omega) (by omega) (by omega)]
      have e : crc1 c = xr (c / 2) 2197175160 := by unfold crc1; rw [if_pos h]
      rw [← e, ← hq, ih k (j + 1) _ (by omega) (by omega) hr.1 hr.2]
    · rw [if_neg h]
      have e : crc1 c = c / 2 := by unfold crc1; rw [if_neg h]
      rw [← e, ← hq, ih k (j + 1) _ (by omega) (by omega) hr.1 hr.2]

theorem spec_Crc_run (s : ByteArray) (hs : s.size ≤ 140737488351232) : ∀ (d k : Nat) (i c : Int), 0 ≤ i → i + d = s.size → 0 ≤ c → c < 4294967296 →
    spec_Crc.l0 (k + 10 * d + 1) s c i = some (4294967295 - crcL ((bytesOf s).drop i.toNat) c) := by
  intro d
  induction d with
  | zero =>
    intro k i c h0 h1 c0 c1
    simp only [spec_Crc.l0]
    rw [if_neg (by omega), List.drop_of_length_le (by rw [bytesOf_length]; omega), w64 (by omega) (by omega)]; rfl
  | succ d ih =>
    intro k i c h0 h1 c0 c1
    obtain ⟨q, hq⟩ : ∃ q, (k + 10 * d + 1) + 8 + 1 = q := ⟨_, rfl⟩
    rw [show k + 10 * (d + 1) + 1 = q + 1 by omega]
    have hlt : i < (s.size : Int) := by omega
    obtain ⟨b0, b1⟩ := bt_range s i
    obtain ⟨r0, r1⟩ := xr_range (a := c) (b := bt s i) c1 (by omega)
    obtain ⟨q0, q1⟩ := crcI_range 8 r0 r1
    simp only [spec_Crc.l0]
    rw [if_pos hlt, if_pos h0, w64 (n := bt s i) (by omega) (by omega), bits_xor64 c0 c1 b0 (by omega), ← hq, spec_Crc_inner s i 8 _ 0 _ (by omega) (by omega) r0 r1, w64 (n := i + 1) (by omega) (by omega), ih k (i + 1) _ (by omega) (by omega) q0 q1, bt_drop h0 hlt, show (i + 1).toNat = i.toNat + 1 by omega]; rfl

theorem spec_Crc_f (s : ByteArray) (hs : s.size ≤ 140737488351232) (k : Nat) (hk : 10 * s.size < k) : spec_Crc.f k s = some (crcM (bytesOf s)) := by
  obtain ⟨q, rfl⟩ : ∃ m, k = m + 10 * s.size + 1 := ⟨k - 10 * s.size - 1, by omega⟩
  unfold spec_Crc.f
  exact spec_Crc_run s hs s.size q 0 _ (by omega) (by omega) (by omega) (by omega)

theorem impl_Crc_inner (s : ByteArray) (n i : Int) : ∀ (d k : Nat) (j c : Int), j + d = 8 → 0 ≤ j → 0 ≤ c → c < 4294967296 →
    impl_Crc.l1 (k + d + 1) s c n i j = impl_Crc.l0 k s (crcI d c) n (wrap64 (i + 1)) := by
  intro d
  induction d with
  | zero =>
    intro k j c hj h0 c0 c1
    simp only [impl_Crc.l1]
    rw [if_neg (by omega)]; rfl
  | succ d ih =>
    intro k j c hj h0 c0 c1
    obtain ⟨q, hq⟩ : ∃ q, k + d + 1 = q := ⟨_, rfl⟩
    rw [show k + (d + 1) + 1 = q + 1 by omega]
    simp only [impl_Crc.l1]
    have hr := crc1_range c0 c1
    rw [if_pos (by omega), bits_and1 c0 c1, w64 (n := j + 1) (by omega) (by omega), crcI]
    by_cases h : c % 2 = 1
    · rw [if_pos h, bits_xor32 (by omega) (by omega) (by omega) (by omega)]
      have e : crc1 c = xr (c / 2) 2197175160 := by unfold crc1; rw [if_pos h]
      rw [← e, ← hq, ih k (j + 1) _ (by omega) (by omega) hr.1 hr.2]
    · rw [if_neg h]
      have e : crc1 c = c / 2 := by unfold crc1; rw [if_neg h]
      rw [← e, ← hq, ih k (j + 1) _ (by omega) (by omega) hr.1 hr.2]

theorem impl_Crc_run (s : ByteArray) (hs : s.size ≤ 140737488351232) : ∀ (d k : Nat) (i c : Int), 0 ≤ i → i + d = s.size → 0 ≤ c → c < 4294967296 →
    impl_Crc.l0 (k + 10 * d + 1) s c (s.size : Int) i = some (4294967295 - crcL ((bytesOf s).drop i.toNat) c) := by
  intro d
  induction d with
  | zero =>
    intro k i c h0 h1 c0 c1
    simp only [impl_Crc.l0]
    rw [if_neg (by omega), List.drop_of_length_le (by rw [bytesOf_length]; omega), bits_xor32 (by omega) (by omega) c0 c1, xr_ones c0 c1, w64 (by omega) (by omega)]; rfl
  | succ d ih =>
    intro k i c h0 h1 c0 c1
    obtain ⟨q, hq⟩ : ∃ q, (k + 10 * d + 1) + 8 + 1 = q := ⟨_, rfl⟩
    rw [show k + 10 * (d + 1) + 1 = q + 1 by omega]
    have hlt : i < (s.size : Int) := by omega
    obtain ⟨b0, b1⟩ := bt_range s i
    obtain ⟨r0, r1⟩ := xr_range (a := c) (b := bt s i) c1 (by omega)
    obtain ⟨q0, q1⟩ := crcI_range 8 r0 r1
    simp only [impl_Crc.l0]
    rw [if_pos hlt, if_pos h0, if_pos hlt, show bt s i % 4294967296 = bt s i by omega, bits_xor32 c0 c1 b0 (by omega), ← hq, impl_Crc_inner s _ i 8 _ 0 _ (by omega) (by omega) r0 r1, w64 (n := i + 1) (by omega) (by omega), ih k (i + 1) _ (by omega) (by omega) q0 q1, bt_drop h0 hlt, show (i + 1).toNat = i.toNat + 1 by omega]; rfl

theorem impl_Crc_f (s : ByteArray) (hs : s.size ≤ 140737488351232) (k : Nat) (hk : 10 * s.size < k) : impl_Crc.f k s = some (crcM (bytesOf s)) := by
  obtain ⟨q, rfl⟩ : ∃ m, k = m + 10 * s.size + 1 := ⟨k - 10 * s.size - 1, by omega⟩
  unfold impl_Crc.f
  exact impl_Crc_run s hs s.size q 0 _ (by omega) (by omega) (by omega) (by omega)

/-! Frame -/
theorem spec_Frame_f (s : ByteArray) (hs : s.size ≤ 140737488351232) (k : Nat) (hk : 21000 < k) : spec_Frame.f k s = some (strOfNums (frameM (bytesOf s))) := by
  obtain ⟨k, rfl⟩ : ∃ m, k = m + 1 := ⟨k - 1, by omega⟩
  unfold spec_Frame.f frameM
  rw [bytesOf_length]
  by_cases h0 : (s.size : Int) = 0
  · rw [if_pos h0, if_neg (by omega)]; simp only [spec_Frame.j0]; rfl
  · rw [if_neg h0]
    simp only [spec_Frame.j0]
    by_cases h1 : (s.size : Int) > 2000
    · rw [if_pos (by simpa using h1), if_neg (by omega)]; rfl
    · have hf : fixM (s.size : Int) 4 = fixL 4 s.size := by unfold fixM; rw [if_pos]; · rfl
                                                            · refine ⟨by omega, by omega, by omega, ?_⟩; rw [show ((4 : Int).toNat) = 4 from rfl]; omega
      have hz : (strOfNums (fixL 4 (s.size : Int))).size = 4 := by rw [size_strOfNums, fixL_length]
      have hb : bytesOf (strOfNums (fixL 4 (s.size : Int)) ++ s) = fixL 4 s.size ++ bytesOf s := by rw [bytesOf_append, bytesOf_strOfNums (fixL_byt _ _)]
      obtain ⟨c0, c1⟩ := crcM_range (l := fixL 4 (s.size : Int) ++ bytesOf s) (byt_append.2 ⟨fixL_byt _ _, byt_bytesOf s⟩)
      have hf2 : fixM (crcM (fixL 4 (s.size : Int) ++ bytesOf s)) 4 = fixL 4 (crcM (fixL 4 s.size ++ bytesOf s)) := by
        unfold fixM; rw [if_pos]; · rfl
        · refine ⟨by omega, by omega, c0, ?_⟩; rw [show ((4 : Int).toNat) = 4 from rfl]; omega
      rw [if_neg (by simpa using h1), if_pos (by omega), spec_Fixed_f _ _ (by omega) _ (by omega), hf]
      simp only [Option.bind_some]
      rw [if_pos (by omega), spec_Crc_f _ (by rw [ByteArray.size_append]; omega) _ (by rw [ByteArray.size_append]; omega), hb]
      simp only [Option.bind_some]
      rw [spec_Fixed_f _ _ (by omega) _ (by omega), hf2]
      simp only [Option.bind_some]
      rw [if_pos (by simp only [ByteArray.size_append, hz, size_strOfNums, fixL_length]; omega), if_pos (by simp only [ByteArray.size_append, hz, size_strOfNums, fixL_length]; omega), ← strOfNums_append, ← strOfNums_append, strOfNums_bytesOf]


theorem impl_Frame_f (s : ByteArray) (hs : s.size ≤ 140737488351232) (k : Nat) (hk : 21000 < k) : impl_Frame.f k s = some (strOfNums (frameM (bytesOf s))) := by
  unfold impl_Frame.f frameM
  rw [bytesOf_length, impl_from_run]
  simp only [Option.bind_some, decide_eq_true_eq]
  by_cases h1 : 1 ≤ (s.size : Int) ∧ (s.size : Int) ≤ 2000
  · rw [if_pos h1, if_pos h1]
    · have hf : fixM (s.size : Int) 4 = fixL 4 s.size := by unfold fixM; rw [if_pos]; · rfl
                                                            · refine ⟨by omega, by omega, by omega, ?_⟩; rw [show ((4 : Int).toNat) = 4 from rfl]; omega
      have hz : (strOfNums (fixL 4 (s.size : Int))).size = 4 := by rw [size_strOfNums, fixL_length]
      have hb : bytesOf (strOfNums (fixL 4 (s.size : Int)) ++ s) = fixL 4 s.size ++ bytesOf s := by rw [bytesOf_append, bytesOf_strOfNums (fixL_byt _ _)]
      obtain ⟨c0, c1⟩ := crcM_range (l := fixL 4 (s.size : Int) ++ bytesOf s) (byt_append.2 ⟨fixL_byt _ _, byt_bytesOf s⟩)
      have hf2 : fixM (crcM (fixL 4 (s.size : Int) ++ bytesOf s)) 4 = fixL 4 (crcM (fixL 4 s.size ++ bytesOf s)) := by
        unfold fixM; rw [if_pos]; · rfl
        · refine ⟨by omega, by omega, c0, ?_⟩; rw [show ((4 : Int).toNat) = 4 from rfl]; omega
      rw [impl_Fixed_f _ _ _ (by omega), hf]
      simp only [Option.bind_some]
      rw [if_pos (by omega), impl_Crc_f _ (by rw [ByteArray.size_append]; omega) _ (by rw [ByteArray.size_append]; omega), hb]
      simp only [Option.bind_some]
      rw [impl_Fixed_f _ _ _ (by omega), hf2]
      simp only [Option.bind_some]
      rw [if_pos (by simp only [ByteArray.size_append, hz, size_strOfNums, fixL_length]; omega), if_pos (by simp only [ByteArray.size_append, hz, size_strOfNums, fixL_length]; omega), ← strOfNums_append, ← strOfNums_append, strOfNums_bytesOf]
  · rw [if_neg h1, if_neg h1]; rfl


/-! RecOk -/
theorem spec_l5Based_run (i t : Int) : spec_l5Based.f i t = some (placeM i t) := by
  unfold spec_l5Based.f placeM
  simp only [spec_l1In_run, Option.bind_some, decide_eq_true_eq]
  repeat' split
  all_goals (congr 1; rw [Bool.eq_iff_iff]; simp only [decide_eq_true_eq, Bool.and_eq_true, beq_iff_eq, true_iff, Bool.false_eq_true, false_iff, iff_true, iff_false]; omega)

theorem impl_isTerm_run (a : Int) : impl_isTerm.f a = some (decide (1 ≤ a ∧ a ≤ 100000)) := by
  unfold impl_isTerm.f; rw [impl_from_run]; rfl
theorem impl_isVote_run (a : Int) : impl_isVote.f a = some (decide (-1 ≤ a ∧ a ≤ 4)) := by
  unfold impl_isVote.f; rw [impl_from_run]; rfl
theorem impl_isPlace_run (i t : Int) : impl_isPlace.f i t = some (placeM i t) := by
  unfold impl_isPlace.f placeM
  simp only [impl_from_run, impl_isTerm_run, Option.bind_some, decide_eq_true_eq]
  repeat' split
  all_goals (congr 1; rw [Bool.eq_iff_iff]; simp only [decide_eq_true_eq, Bool.and_eq_true, beq_iff_eq, true_iff, Bool.false_eq_true, false_iff, iff_true, iff_false]; omega)

theorem spec_RecOk_run (k t i v : Int) (d : ByteArray) : spec_RecOk.f k t i v d = some (recOkM k t i v d.size) := by
  unfold spec_RecOk.f recOkM
  simp only [spec_l1In_run, spec_l5Based_run, Option.bind_some, decide_eq_true_eq, toList_nil]
  repeat' split
  all_goals (first | rfl | (exfalso; omega) | (congr 1; (try simp only [placeM, decide_eq_true_eq] at *); rw [Bool.eq_iff_iff]; (try simp only [decide_eq_true_eq, Bool.and_eq_true, beq_iff_eq, true_iff, Bool.false_eq_true, false_iff, iff_true, iff_false]); omega))

theorem impl_RecOk_run (k t i v : Int) (d : ByteArray) : impl_RecOk.f k t i v d = some (recOkM k t i v d.size) := by
  unfold impl_RecOk.f recOkM
  simp only [impl_from_run, impl_isTerm_run, impl_isVote_run, impl_isPlace_run, Option.bind_some, decide_eq_true_eq, toList_nil]
  repeat' split
  all_goals (first | rfl | (exfalso; omega) | (congr 1; (try simp only [placeM, decide_eq_true_eq] at *); rw [Bool.eq_iff_iff]; (try simp only [decide_eq_true_eq, Bool.and_eq_true, beq_iff_eq, true_iff, Bool.false_eq_true, false_iff, iff_true, iff_false]); omega))

/-! ShowRec -/
def showRecM (k t i v : Int) (d : ByteArray) : List Int := if recOkM k t i v d.size then [k] ++ varM t ++ varM i ++ varM (v + 1) ++ bytesOf d else []
theorem showRecM_byt (k t i v : Int) (d : ByteArray) : Byt (showRecM k t i v d) := by
  unfold showRecM
  split
  · rename_i h
    have hk : 0 ≤ k ∧ k < 256 := by
      unfold recOkM at h
      repeat' split at h
      all_goals (first | omega | simp at h)
    exact byt_append.2 ⟨byt_append.2 ⟨byt_append.2 ⟨byt_append.2 ⟨byt_cons.2 ⟨hk, byt_nil⟩, varM_byt _⟩, varM_byt _⟩, varM_byt _⟩, byt_bytesOf _⟩
  · exact byt_nil
theorem varM_length (n : Int) : (varM n).length ≤ 7 := by
  unfold varM; split
  · exact varN_length 6 _ (by omega)
  · simp
theorem rec_small {k t i v : Int} {n : Nat} (h : recOkM k t i v n = true) : (k = 1 ∨ k = 2 ∨ k = 3 ∨ k = 4) ∧ n ≤ 900 ∧ -1 ≤ v ∧ v ≤ 4 := by
  unfold recOkM at h
  split at h
  · simp at h; omega
  · split at h
    · simp at h; omega
    · split at h
      · simp at h; omega
      · split at h
        · simp at h; omega
        · simp at h
theorem spec_ShowRec_f (k t i v : Int) (d : ByteArray) (f : Nat) (hf : 8 < f) : spec_ShowRec.f f k t i v d = some (strOfNums (showRecM k t i v d)) := by
  unfold spec_ShowRec.f showRecM
  rw [spec_RecOk_run]
  simp only [Option.bind_some]
  by_cases h : recOkM k t i v d.size = true
  · obtain ⟨hk, hn, hv, hv2⟩ := rec_small h
    have l1 := varM_length t
    have l2 := varM_length i
    have l3 := varM_length (v + 1)
    rw [if_pos h, if_pos h, spec_Var_f _ _ hf, spec_Var_f _ _ hf, spec_Var_f _ _ hf, w64 (by omega) (by omega)]
    simp only [Option.bind_some, ByteArray.size_append, size_strOfNums, List.length_cons, List.length_nil]
    rw [if_pos (by omega), if_pos (by omega), if_pos (by omega), if_pos (by omega), show k % 256 = k by omega]
    congr 1
    rw [strOfNums_append, strOfNums_append, strOfNums_append]
    conv => lhs; rw [← strOfNums_bytesOf d]
    rw [strOfNums_append]
  · rw [if_neg h, if_neg h]; rfl

theorem impl_ShowRec_f (k t i v : Int) (d : ByteArray) (f : Nat) (hf : 8 < f) : impl_ShowRec.f f k t i v d = some (strOfNums (showRecM k t i v d)) := by
  unfold impl_ShowRec.f showRecM
  rw [impl_RecOk_run]
  simp only [Option.bind_some]
  by_cases h : recOkM k t i v d.size = true
  · obtain ⟨hk, hn, hv, hv2⟩ := rec_small h
    have l1 := varM_length t
    have l2 := varM_length i
    have l3 := varM_length (v + 1)
    rw [if_pos h, if_pos h, impl_Var_f _ _ hf, impl_Var_f _ _ hf, impl_Var_f _ _ hf, w64 (by omega) (by omega)]
    simp only [Option.bind_some, ByteArray.size_append, size_strOfNums, List.length_cons, List.length_nil]
    rw [if_pos (by omega), if_pos (by omega), if_pos (by omega), if_pos (by omega), show k % 256 = k by omega]
    congr 1
    rw [strOfNums_append, strOfNums_append, strOfNums_append]
    conv => lhs; rw [← strOfNums_bytesOf d]
    rw [strOfNums_append]
  · rw [if_neg h, if_neg h]; rfl


/-! marks -/
def mT (n : Int) : ByteArray := strOfNums (109 :: decN n.toNat)
theorem str109 : (⟨#[109]⟩ : ByteArray) = strOfNums [109] := by decide

theorem laws_markText_loop : ∀ (d k n : Nat) (l : List Int), n < 10 ^ d → (0 < n → True) → n ≤ 4611686018427387904 → l.length + d < 90 → d < k →
    laws_markText.l0 k (n : Int) (strOfNums l) = some (strOfNums (109 :: ((if n = 0 then [] else decN n) ++ l))) := by
  intro d
  induction d with
  | zero =>
    intro k n l n1 _ hd hl hk
    obtain ⟨q, rfl⟩ : ∃ m, k = m + 1 := ⟨k - 1, by omega⟩
    have hn : n = 0 := by omega
    simp only [laws_markText.l0]
    rw [if_neg (by omega), if_pos (by rw [size_strOfNums]; omega), if_pos hn, str109, strOfNums_append]; rfl
  | succ d ih =>
    intro k n l n1 _ hd hl hk
    obtain ⟨q, rfl⟩ : ∃ m, k = m + 1 := ⟨k - 1, by omega⟩
    by_cases h0 : n = 0
    · simp only [laws_markText.l0]
      rw [if_neg (by omega), if_pos (by rw [size_strOfNums]; omega), if_pos h0, str109, strOfNums_append]; rfl
    · simp only [laws_markText.l0]
      rw [if_pos (by omega), tmod_nn (by omega), tdiv_nn (by omega), w64 (n := 48 + (n : Int) % 10) (by omega) (by omega), w64 (n := (n : Int) / 10) (by omega) (by omega)]
      simp only [Option.bind_some]
      rw [if_pos (by rw [size_strOfNums, size_strOfNums]; simp; omega), strOfNums_append, show (n : Int) / 10 = ((n / 10 : Nat) : Int) by omega, ih q (n / 10) _ (by rw [pow10] at n1; omega) (fun _ => trivial) (by omega) (by simp; omega) (by omega), if_neg h0]
      by_cases h : n < 10
      · rw [if_pos (by omega), decN_lt h, show (48 + (n : Int) % 10) % 256 = 48 + (n : Int) by omega]; simp
      · rw [if_neg (by omega), decN_ge h, show (48 + (n : Int) % 10) % 256 = 48 + ((n % 10 : Nat) : Int) by omega]; simp

theorem laws_markText_f (n : Int) (h0 : 0 < n) (h1 : n ≤ 4611686018427387904) (k : Nat) (hk : 30 < k) : laws_markText.f k n = some (mT n) := by
  unfold laws_markText.f
  rw [if_neg (by omega)]
  have := laws_markText_loop 19 k n.toNat [] (by omega) (fun _ => trivial) (by omega) (by simp) (by omega)
  rw [show ((n.toNat : Nat) : Int) = n by omega] at this
  rw [show (⟨#[]⟩ : ByteArray) = strOfNums [] from rfl, this, if_neg (by omega)]; simp [mT]

theorem rdA139 (a : List S139) (x : S139) (b : List S139) : rd_T139 (a ++ x :: b) (a.length : Int) = x := by simp [rd_T139, List.getD]
theorem setA139 (a : List S139) (x y : S139) (b : List S139) : (a ++ x :: b).set ((a.length : Int)).toNat y = a ++ y :: b := by
  rw [show ((a.length : Int)).toNat = a.length by omega, List.set_append_right _ _ (Nat.le_refl _), Nat.sub_self, List.set_cons_zero]
theorem rdA117 (a : List S117) (x : S117) (b : List S117) : rd_T117 (a ++ x :: b) (a.length : Int) = x := by simp [rd_T117, List.getD]
theorem setA117 (a : List S117) (x y : S117) (b : List S117) : (a ++ x :: b).set ((a.length : Int)).toNat y = a ++ y :: b := by
  rw [show ((a.length : Int)).toNat = a.length by omega, List.set_append_right _ _ (Nat.le_refl _), Nat.sub_self, List.set_cons_zero]
theorem laws_szEntry_f (a0 : Int) (a1 : ByteArray) (left : Int) (h1 : a1.size ≤ maxLen) (l0 : 0 ≤ left) (l1 : left ≤ 1048576) : ∃ r, laws_szEntry.f a0 a1 left = some r ∧ -1 ≤ r ∧ r ≤ left ∧ (0 ≤ r → 0 ≤ left ∧ (a1.size : Int) ≤ left) := by
  unfold laws_szEntry.f
  unfold maxLen at h1
  have e1 : wrap64 (left - (a1.size : Int)) = left - (a1.size : Int) := w64 (by omega) (by omega)
  simp only [e1]
  by_cases g1 : left - (a1.size : Int) < 0
  · rw [if_pos g1]; exact ⟨-1, rfl, by omega, by omega, fun h => by omega⟩
  · rw [if_neg g1]
    exact ⟨_, rfl, by omega, by omega, fun h => by omega⟩
theorem laws_szEntryS_run : ∀ (b a : List S139) (k : Nat) (left : Int), a.length + b.length ≤ 1048576 → (∀ x ∈ b, x.f1.size ≤ maxLen) → 0 ≤ left → left ≤ 1048576 → b.length < k →
    ∃ r, laws_szEntryS.l0 k (a ++ b) left (a.length : Int) = some r ∧ -1 ≤ r ∧ r ≤ left ∧ (0 ≤ r → ∀ x ∈ b, (x.f1.size : Int) ≤ left) := by
  intro b
  induction b with
  | nil =>
    intro a k left h0 hg l0 l1 hk
    obtain ⟨q, rfl⟩ : ∃ m, k = m + 1 := ⟨k - 1, by omega⟩
    simp only [laws_szEntryS.l0]
    rw [if_neg (by simp)]
    exact ⟨left, rfl, by omega, by omega, fun _ x hx => by simp at hx⟩
  | cons x b ih =>
    intro a k left h0 hg l0 l1 hk
    simp only [List.length_cons] at h0 hk
    obtain ⟨q, rfl⟩ : ∃ m, k = m + 1 := ⟨k - 1, by omega⟩
    simp only [laws_szEntryS.l0]
    rw [if_pos (by simp; omega), if_pos (by omega), rdA139]
    have hgx := hg x (List.mem_cons_self)
    obtain ⟨r, e, r0, r1, r2⟩ := laws_szEntry_f x.f0 x.f1 left hgx l0 l1
    rw [e]; simp only [Option.bind_some]
    by_cases hr : r < 0
    · rw [if_pos hr]; exact ⟨-1, rfl, by omega, by omega, fun h => by omega⟩
    · rw [if_neg hr, w64 (n := (a.length : Int) + 1) (by omega) (by omega)]
      obtain ⟨s, f, s0, s1, s2⟩ := ih (a ++ [x]) q r (by simp; omega) (fun y hy => hg y (List.mem_cons_of_mem _ hy)) (by omega) (by omega) (by omega)
      rw [List.append_assoc, List.singleton_append, show (((a ++ [x]).length : Nat) : Int) = (a.length : Int) + 1 by simp] at f
      refine ⟨s, f, s0, by omega, fun hs y hy => ?_⟩
      have r3 := r2 (by omega)
      rcases List.mem_cons.1 hy with rfl | hy
      · omega
      · have := s2 hs y hy
        omega
theorem laws_szEntryS_f (l : List S139) (left : Int) (hl : l.length ≤ maxLen) (hg : ∀ x ∈ l, x.f1.size ≤ maxLen) (l0 : 0 ≤ left) (l1 : left ≤ 1048576) (k : Nat) (hk : 1048577 < k) :
    ∃ r, laws_szEntryS.f k l left = some r ∧ -1 ≤ r ∧ r ≤ left ∧ (0 ≤ r → l.length ≤ 1048576 ∧ ∀ x ∈ l, x.f1.size ≤ 1048576) := by
  unfold laws_szEntryS.f maxLen at *
  rw [w64 (n := left - (l.length : Int)) (by omega) (by omega)]
  by_cases h : left - (l.length : Int) < 0
  · rw [if_pos h]; exact ⟨-1, rfl, by omega, by omega, fun h => by omega⟩
  · rw [if_neg h]
    obtain ⟨r, e, r0, r1, r2⟩ := laws_szEntryS_run l [] k (left - (l.length : Int)) (by simp; omega) (fun x hx => by have := hg x hx; (unfold maxLen; exact this)) (by omega) (by omega) (by omega)
    refine ⟨r, by simpa using e, r0, by omega, fun hr => ⟨by omega, fun x hx => ?_⟩⟩
    have := r2 hr x hx
    omega
def cvEntry (x : S139) : S117 := ⟨x.f0, x.f1⟩
theorem laws_toEntryS_run : ∀ (b a : List S139) (k : Nat), a.length + b.length ≤ 1048576 → b.length < k →
    laws_toEntryS.l0 k (a ++ b) (a.map cvEntry ++ List.replicate b.length z117) (a.length : Int) = some ((a ++ b).map cvEntry) := by
  intro b
  induction b with
  | nil =>
    intro a k h0 hk
    obtain ⟨q, rfl⟩ : ∃ m, k = m + 1 := ⟨k - 1, by omega⟩
    simp only [laws_toEntryS.l0]
    rw [if_neg (by simp)]; simp
  | cons x b ih =>
    intro a k h0 hk
    simp only [List.length_cons] at h0 hk
    obtain ⟨q, rfl⟩ : ∃ m, k = m + 1 := ⟨k - 1, by omega⟩
    simp only [laws_toEntryS.l0]
    rw [if_pos (by simp; omega), if_pos (by omega), rdA139]
    simp only [laws_toEntry.f, Option.bind_some]
    rw [if_pos (by simp; omega), w64 (n := (a.length : Int) + 1) (by omega) (by omega), List.length_cons, List.replicate_succ]
    have hs := setA117 (a.map cvEntry) z117 (cvEntry x) (List.replicate b.length z117)
    rw [List.length_map] at hs
    rw [show (⟨x.f0, x.f1⟩ : S117) = cvEntry x from rfl, hs]
    have f := ih (a ++ [x]) q (by simp; omega) (by omega)
    rw [List.append_assoc, List.singleton_append, show (((a ++ [x]).length : Nat) : Int) = (a.length : Int) + 1 by simp, List.map_append, List.map_singleton, List.append_assoc, List.singleton_append] at f
    exact f
theorem laws_toEntryS_f (l : List S139) (hl : l.length ≤ 1048576) (k : Nat) (hk : l.length < k) : laws_toEntryS.f k l = some (l.map cvEntry) := by
  unfold laws_toEntryS.f
  rw [if_pos (by omega), show ((l.length : Int)).toNat = l.length by omega, if_pos (by omega)]
  have := laws_toEntryS_run l [] k (by simp; omega) hk
  simpa using this
theorem laws_eqEntry_f (a0 : Int) (a1 : ByteArray) : laws_eqEntry.f a0 a1 a0 a1 = some true := by unfold laws_eqEntry.f; simp
theorem laws_eqEntryS_run (l : List S117) (hl : l.length ≤ 1099511627776) : ∀ (d k : Nat) (i : Int), 0 ≤ i → i + d = l.length → d < k → laws_eqEntryS.l0 k l l i = some true := by
  intro d
  induction d with
  | zero =>
    intro k i h0 h1 hk
    obtain ⟨q, rfl⟩ : ∃ m, k = m + 1 := ⟨k - 1, by omega⟩
    simp only [laws_eqEntryS.l0]; rw [if_neg (by omega)]
  | succ d ih =>
    intro k i h0 h1 hk
    obtain ⟨q, rfl⟩ : ∃ m, k = m + 1 := ⟨k - 1, by omega⟩
    simp only [laws_eqEntryS.l0]
    rw [if_pos (by omega), if_pos h0, if_pos (by omega), laws_eqEntry_f, w64 (n := i + 1) (by omega) (by omega)]
    simp only [Option.bind_some]
    rw [if_pos trivial, ih q (i + 1) (by omega) (by omega) (by omega)]
theorem laws_eqEntryS_f (l : List S117) (hl : l.length ≤ 1099511627776) (k : Nat) (hk : l.length < k) : laws_eqEntryS.f k l l = some true := by
  unfold laws_eqEntryS.f; rw [if_pos rfl]; exact laws_eqEntryS_run l hl l.length k 0 (by omega) (by omega) hk
def mkEntry (m : Int) : S117 := ⟨m, mT (m + 1)⟩
def marksEntry : Int → Nat → List S117
  | _, 0 => []
  | m, n + 1 => mkEntry m :: marksEntry (m + 1 + 1) n
theorem marksEntry_length : ∀ (n : Nat) (m : Int), (marksEntry m n).length = n
  | 0, _ => rfl
  | n + 1, m => by simp [marksEntry, marksEntry_length n]
theorem laws_markEntryS_run : ∀ (b a : List S117) (k : Nat) (m : Int), 0 < m → m + 2 * b.length ≤ 1099511627776 → a.length + b.length ≤ 1099511627776 → b.length + 40 < k →
    laws_markEntryS.l0 k (a ++ b) m (a.length : Int) = some (m + 2 * b.length, a ++ marksEntry m b.length) := by
  intro b
  induction b with
  | nil =>
    intro a k m h0 h1 h2 hk
    obtain ⟨q, rfl⟩ : ∃ m, k = m + 1 := ⟨k - 1, by omega⟩
    simp only [laws_markEntryS.l0]; rw [if_neg (by simp)]; simp [marksEntry]
  | cons x b ih =>
    intro a k m h0 h1 h2 hk
    simp only [List.length_cons] at h1 h2 hk
    obtain ⟨q, rfl⟩ : ∃ m, k = m + 1 := ⟨k - 1, by omega⟩
    have e1 : wrap64 (m + 1) = m + 1 := w64 (by omega) (by omega)
    have e2 : wrap64 (m + 1 + 1) = m + 1 + 1 := w64 (by omega) (by omega)
    have t1 := laws_markText_f (m + 1) (by omega) (by omega) q (by omega)
    simp only [laws_markEntryS.l0]
    rw [if_pos (by simp; omega), if_pos (by omega), w64 (n := (a.length : Int) + 1) (by omega) (by omega)]
    simp only [e1, e2, t1, Option.bind_some, setA117, rdA117]
    have f := ih (a ++ [mkEntry m]) q (m + 1 + 1) (by omega) (by omega) (by simp; omega) (by omega)
    rw [List.append_assoc, List.singleton_append, show (((a ++ [mkEntry m]).length : Nat) : Int) = (a.length : Int) + 1 by simp] at f
    refine Eq.trans f ?_
    simp [marksEntry]; omega
theorem laws_markEntryS_f (l : List S117) (m : Int) (h0 : 0 < m) (h1 : m + 2 * l.length ≤ 1099511627776) (k : Nat) (hk : l.length + 40 < k) : laws_markEntryS.f k l m = some (m + 2 * l.length, marksEntry m l.length) := by
  unfold laws_markEntryS.f
  have := laws_markEntryS_run l [] k m h0 h1 (by simp; omega) hk
  simpa using this

theorem rdA130 (a : List S130) (x : S130) (b : List S130) : rd_T130 (a ++ x :: b) (a.length : Int) = x := by simp [rd_T130, List.getD]
theorem setA130 (a : List S130) (x y : S130) (b : List S130) : (a ++ x :: b).set ((a.length : Int)).toNat y = a ++ y :: b := by
  rw [show ((a.length : Int)).toNat = a.length by omega, List.set_append_right _ _ (Nat.le_refl _), Nat.sub_self, List.set_cons_zero]
theorem laws_eqStep_f (a0 : Int) (a1 : ByteArray) (a2 : ByteArray) (a3 : ByteArray) : laws_eqStep.f a0 a1 a2 a3 a0 a1 a2 a3 = some true := by unfold laws_eqStep.f; simp
theorem laws_eqStepS_run (l : List S130) (hl : l.length ≤ 1099511627776) : ∀ (d k : Nat) (i : Int), 0 ≤ i → i + d = l.length → d < k → laws_eqStepS.l0 k l l i = some true := by
  intro d
  induction d with
  | zero =>
    intro k i h0 h1 hk
    obtain ⟨q, rfl⟩ : ∃ m, k = m + 1 := ⟨k - 1, by omega⟩
    simp only [laws_eqStepS.l0]; rw [if_neg (by omega)]
  | succ d ih =>
    intro k i h0 h1 hk
    obtain ⟨q, rfl⟩ : ∃ m, k = m + 1 := ⟨k - 1, by omega⟩
    simp only [laws_eqStepS.l0]
    rw [if_pos (by omega), if_pos h0, if_pos (by omega), laws_eqStep_f, w64 (n := i + 1) (by omega) (by omega)]
    simp only [Option.bind_some]
    rw [if_pos trivial, ih q (i + 1) (by omega) (by omega) (by omega)]
theorem laws_eqStepS_f (l : List S130) (hl : l.length ≤ 1099511627776) (k : Nat) (hk : l.length < k) : laws_eqStepS.f k l l = some true := by
  unfold laws_eqStepS.f; rw [if_pos rfl]; exact laws_eqStepS_run l hl l.length k 0 (by omega) (by omega) hk
def mkStep (m : Int) : S130 := ⟨m, mT (m + 1), mT (m + 1 + 1), mT (m + 1 + 1 + 1)⟩
def marksStep : Int → Nat → List S130
  | _, 0 => []
  | m, n + 1 => mkStep m :: marksStep (m + 1 + 1 + 1 + 1) n
theorem marksStep_length : ∀ (n : Nat) (m : Int), (marksStep m n).length = n
  | 0, _ => rfl
  | n + 1, m => by simp [marksStep, marksStep_length n]
theorem laws_markStepS_run : ∀ (b a : List S130) (k : Nat) (m : Int), 0 < m → m + 4 * b.length ≤ 1099511627776 → a.length + b.length ≤ 1099511627776 → b.length + 40 < k →
    laws_markStepS.l0 k (a ++ b) m (a.length : Int) = some (m + 4 * b.length, a ++ marksStep m b.length) := by
  intro b
  induction b with
  | nil =>
    intro a k m h0 h1 h2 hk
    obtain ⟨q, rfl⟩ : ∃ m, k = m + 1 := ⟨k - 1, by omega⟩
    simp only [laws_markStepS.l0]; rw [if_neg (by simp)]; simp [marksStep]
  | cons x b ih =>
    intro a k m h0 h1 h2 hk
    simp only [List.length_cons] at h1 h2 hk
    obtain ⟨q, rfl⟩ : ∃ m, k = m + 1 := ⟨k - 1, by omega⟩
    have e1 : wrap64 (m + 1) = m + 1 := w64 (by omega) (by omega)
    have e2 : wrap64 (m + 1 + 1) = m + 1 + 1 := w64 (by omega) (by omega)
    have e3 : wrap64 (m + 1 + 1 + 1) = m + 1 + 1 + 1 := w64 (by omega) (by omega)
    have e4 : wrap64 (m + 1 + 1 + 1 + 1) = m + 1 + 1 + 1 + 1 := w64 (by omega) (by omega)
    have t1 := laws_markText_f (m + 1) (by omega) (by omega) q (by omega)
    have t2 := laws_markText_f (m + 1 + 1) (by omega) (by omega) q (by omega)
    have t3 := laws_markText_f (m + 1 + 1 + 1) (by omega) (by omega) q (by omega)
    simp only [laws_markStepS.l0]
    rw [if_pos (by simp; omega), if_pos (by omega), w64 (n := (a.length : Int) + 1) (by omega) (by omega)]
    simp only [e1, e2, e3, e4, t1, t2, t3, Option.bind_some, setA130, rdA130]
    have f := ih (a ++ [mkStep m]) q (m + 1 + 1 + 1 + 1) (by omega) (by omega) (by simp; omega) (by omega)
    rw [List.append_assoc, List.singleton_append, show (((a ++ [mkStep m]).length : Nat) : Int) = (a.length : Int) + 1 by simp] at f
    refine Eq.trans f ?_
    simp [marksStep]; omega
theorem laws_markStepS_f (l : List S130) (m : Int) (h0 : 0 < m) (h1 : m + 4 * l.length ≤ 1099511627776) (k : Nat) (hk : l.length + 40 < k) : laws_markStepS.f k l m = some (m + 4 * l.length, marksStep m l.length) := by
  unfold laws_markStepS.f
  have := laws_markStepS_run l [] k m h0 h1 (by simp; omega) hk
  simpa using this
theorem laws_heldStepS_run : ∀ (n : Nat) (a : List S130) (k : Nat) (m : Int), 0 < m → m + 4 * n ≤ 1099511627776 → a.length + n ≤ 1099511627776 → n + 40 < k →
    laws_heldStepS.l0 k (a ++ marksStep m n) m (a.length : Int) = some (m + 4 * n) := by
  intro n
  induction n with
  | zero =>
    intro a k m h0 h1 h2 hk
    obtain ⟨q, rfl⟩ : ∃ m, k = m + 1 := ⟨k - 1, by omega⟩
    simp only [laws_heldStepS.l0]; rw [if_neg (by simp [marksStep])]; simp
  | succ n ih =>
    intro a k m h0 h1 h2 hk
    obtain ⟨q, rfl⟩ : ∃ m, k = m + 1 := ⟨k - 1, by omega⟩
    have e1 : wrap64 (m + 1) = m + 1 := w64 (by omega) (by omega)
    have e2 : wrap64 (m + 1 + 1) = m + 1 + 1 := w64 (by omega) (by omega)
    have e3 : wrap64 (m + 1 + 1 + 1) = m + 1 + 1 + 1 := w64 (by omega) (by omega)
    have e4 : wrap64 (m + 1 + 1 + 1 + 1) = m + 1 + 1 + 1 + 1 := w64 (by omega) (by omega)
    have t1 := laws_markText_f (m + 1) (by omega) (by omega) q (by omega)
    have t2 := laws_markText_f (m + 1 + 1) (by omega) (by omega) q (by omega)
    have t3 := laws_markText_f (m + 1 + 1 + 1) (by omega) (by omega) q (by omega)
    have f := ih (a ++ [mkStep m]) q (m + 1 + 1 + 1 + 1) (by omega) (by omega) (by simp; omega) (by omega)
    rw [List.append_assoc, List.singleton_append, show (((a ++ [mkStep m]).length : Nat) : Int) = (a.length : Int) + 1 by simp] at f
    have hl : (a ++ marksStep m (n + 1)).length = a.length + (n + 1) := by rw [List.length_append, marksStep_length]
    simp only [laws_heldStepS.l0]
    rw [if_pos (by rw [hl]; omega), if_pos (by omega), w64 (n := (a.length : Int) + 1) (by omega) (by omega), marksStep]
    simp only [e1, e2, e3, e4, t1, t2, t3, Option.bind_some, rdA130, mkStep, if_true]
    refine Eq.trans f ?_
    congr 1; omega
theorem laws_heldStepS_f (n : Nat) (m : Int) (h0 : 0 < m) (h1 : m + 4 * n ≤ 1099511627776) (k : Nat) (hk : n + 40 < k) : laws_heldStepS.f k (marksStep m n) m = some (m + 4 * n) := by
  unfold laws_heldStepS.f
  have := laws_heldStepS_run n [] k m h0 h1 (by simp; omega) hk
  simpa using this

/-! WalOk -/
def termsM : Int → Int → List S117 → Bool
  | _, _, [] => true
  | low, hi, e :: r => decide (1 ≤ e.f0 ∧ low ≤ e.f0 ∧ e.f0 ≤ hi ∧ e.f1.size ≤ 900) && termsM e.f0 hi r
def walOkM (t v b bt : Int) (l : List S117) : Bool := decide (0 ≤ t ∧ t ≤ 100000 ∧ -1 ≤ v ∧ v ≤ 4 ∧ placeM b bt = true ∧ bt ≤ t ∧ l.length ≤ 60 ∧ b + l.length ≤ 100000) && termsM bt t l

theorem spec_WalOk_run (t v bs bt : Int) : ∀ (b a : List S117) (k : Nat) (low : Int), a.length + b.length ≤ 1048576 → b.length < k →
    spec_WalOk.l0 k low (a.length : Int) t v bs bt (a ++ b) = some (termsM low t b) := by
  intro b
  induction b with
  | nil =>
    intro a k low h0 hk
    obtain ⟨q, rfl⟩ : ∃ m, k = m + 1 := ⟨k - 1, by omega⟩
    simp only [spec_WalOk.l0]; rw [if_neg (by simp)]; rfl
  | cons x b ih =>
    intro a k low h0 hk
    simp only [List.length_cons] at h0 hk
    obtain ⟨q, rfl⟩ : ∃ m, k = m + 1 := ⟨k - 1, by omega⟩
    have f := ih (a ++ [x]) q x.f0 (by simp; omega) (by omega)
    rw [List.append_assoc, List.singleton_append, show (((a ++ [x]).length : Nat) : Int) = (a.length : Int) + 1 by simp] at f
    simp only [spec_WalOk.l0, rdA117, termsM]
    rw [if_pos (by simp; omega), if_pos (by omega), w64 (n := (a.length : Int) + 1) (by omega) (by omega), f]
    by_cases h : 1 ≤ x.f0 ∧ low ≤ x.f0 ∧ x.f0 ≤ t ∧ x.f1.size ≤ 900
    · rw [if_neg (by omega), if_neg (by omega), if_neg (by omega), if_neg (by omega), decide_eq_true h, Bool.true_and]
    · rw [decide_eq_false h, Bool.false_and]
      repeat' split
      all_goals (first | rfl | (exfalso; omega))

theorem spec_WalOk_f (t v b bt : Int) (l : List S117) (hl : l.length ≤ 1048576) (k : Nat) (hk : 1048578 < k) : spec_WalOk.f k t v b bt l = some (walOkM t v b bt l) := by
  obtain ⟨q, rfl⟩ : ∃ m, k = m + 1 := ⟨k - 1, by omega⟩
  have f := spec_WalOk_run t v b bt l [] q bt (by simp; omega) (by omega)
  simp only [List.nil_append, List.length_nil] at f
  unfold spec_WalOk.f walOkM
  simp only [spec_l1In_run, spec_l5Based_run, Option.bind_some, decide_eq_true_eq, spec_WalOk.j0]
  by_cases h1 : 0 ≤ t ∧ t ≤ 100000
  · rw [if_pos h1]
    by_cases h2 : -1 ≤ v ∧ v ≤ 4
    · rw [if_pos h2]
      by_cases h3 : placeM b bt = true
      · have hb : 0 ≤ b ∧ b ≤ 100000 := by unfold placeM at h3; simp only [decide_eq_true_eq] at h3; omega
        rw [if_pos h3]
        by_cases h4 : bt > t
        · rw [if_pos h4, if_pos trivial, decide_eq_false (by omega), Bool.false_and]
        · rw [if_neg h4]
          by_cases h5 : (l.length : Int) > 60
          · rw [if_pos h5, if_pos trivial, decide_eq_false (by omega), Bool.false_and]
          · rw [if_neg h5, w64 (by omega) (by omega)]
            by_cases h6 : b + (l.length : Int) > 100000
            · rw [if_pos h6, decide_eq_false (by omega), Bool.false_and]
            · rw [if_neg h6, decide_eq_true ⟨h1.1, h1.2, h2.1, h2.2, h3, by omega, by omega, by omega⟩, Bool.true_and]
              exact f
      · rw [if_neg h3, if_pos trivial, decide_eq_false (fun g => h3 g.2.2.2.2.1), Bool.false_and]
    · rw [if_neg h2, if_pos trivial, decide_eq_false (fun g => h2 ⟨g.2.2.1, g.2.2.2.1⟩), Bool.false_and]
  · rw [if_neg h1, if_pos trivial, decide_eq_false (fun g => h1 ⟨g.1, g.2.1⟩), Bool.false_and]

theorem impl_termsOk_run (hi : Int) : ∀ (b a : List S117) (k : Nat) (low : Int), a.length + b.length ≤ 1048576 → b.length < k →
    impl_termsOk.l0 k low hi (a ++ b) ((a ++ b).length : Int) (a.length : Int) = some (termsM low hi b) := by
  intro b
  induction b with
  | nil =>
    intro a k low h0 hk
    obtain ⟨q, rfl⟩ : ∃ m, k = m + 1 := ⟨k - 1, by omega⟩
    simp only [impl_termsOk.l0]; rw [if_neg (by simp)]; rfl
  | cons x b ih =>
    intro a k low h0 hk
    simp only [List.length_cons] at h0 hk
    obtain ⟨q, rfl⟩ : ∃ m, k = m + 1 := ⟨k - 1, by omega⟩
    have f := ih (a ++ [x]) q x.f0 (by simp; omega) (by omega)
    rw [List.append_assoc, List.singleton_append, show (((a ++ [x]).length : Nat) : Int) = (a.length : Int) + 1 by simp] at f
    simp only [impl_termsOk.l0, rdA117, termsM, impl_from_run, Option.bind_some, decide_eq_true_eq]
    rw [if_pos (by simp; omega), if_pos (by omega), if_pos (by simp; omega), w64 (n := (a.length : Int) + 1) (by omega) (by omega), f]
    by_cases h : 1 ≤ x.f0 ∧ low ≤ x.f0 ∧ x.f0 ≤ hi ∧ x.f1.size ≤ 900
    · rw [if_neg (by omega), if_pos (by omega), if_neg (by omega), decide_eq_true h, Bool.true_and]
    · rw [decide_eq_false h, Bool.false_and]
      repeat' split
      all_goals (first | rfl | (exfalso; omega))
theorem impl_WalOk_f (t v b bt : Int) (l : List S117) (hl : l.length ≤ 1048576) (k : Nat) (hk : 1048578 < k) : impl_WalOk.f k t v b bt l = some (walOkM t v b bt l) := by
  have f := impl_termsOk_run t l [] k bt (by simp; omega) (by omega)
  simp only [List.nil_append, List.length_nil] at f
  unfold impl_WalOk.f walOkM impl_termsOk.f
  rw [show ((0 : Nat) : Int) = 0 from rfl] at f
  simp only [impl_from_run, impl_isVote_run, impl_isPlace_run, Option.bind_some, decide_eq_true_eq, f]
  by_cases h1 : 0 ≤ t ∧ t ≤ 100000
  · rw [if_pos h1]
    by_cases h2 : -1 ≤ v ∧ v ≤ 4
    · rw [if_pos h2]
      by_cases h3 : placeM b bt = true
      · have hb : 0 ≤ b ∧ b ≤ 100000 := by unfold placeM at h3; simp only [decide_eq_true_eq] at h3; omega
        rw [if_pos h3]
        by_cases h4 : bt ≤ t
        · rw [if_pos h4]
          by_cases h5 : (l.length : Int) ≤ 60
          · rw [if_pos h5, w64 (by omega) (by omega)]
            by_cases h6 : b + (l.length : Int) ≤ 100000
            · rw [decide_eq_true h6, decide_eq_true ⟨h1.1, h1.2, h2.1, h2.2, h3, h4, by omega, h6⟩, Bool.true_and]
              cases termsM bt t l <;> simp
            · rw [decide_eq_false h6, decide_eq_false (fun g => h6 g.2.2.2.2.2.2.2), Bool.false_and]
              cases termsM bt t l <;> simp
          · rw [if_neg h5, decide_eq_false (by omega), Bool.false_and]
        · rw [if_neg h4, decide_eq_false (by omega), Bool.false_and]
      · rw [if_neg h3, decide_eq_false (fun g => h3 g.2.2.2.2.1), Bool.false_and]
    · rw [if_neg h2, decide_eq_false (fun g => h2 ⟨g.2.2.1, g.2.2.2.1⟩), Bool.false_and]
  · rw [if_neg h1, decide_eq_false (fun g => h1 ⟨g.1, g.2.1⟩), Bool.false_and]

/-! the laws' own functions of a Wal -/
theorem laws_szWal_f (t v b bt : Int) (l : List S139) (left : Int) (hl : l.length ≤ maxLen) (hg : ∀ x ∈ l, x.f1.size ≤ maxLen) (l0 : 0 ≤ left) (l1 : left ≤ 1048576) (k : Nat) (hk : 1048577 < k) :
    ∃ r, laws_szWal.f k t v b bt l left = some r ∧ -1 ≤ r ∧ r ≤ left ∧ (0 ≤ r → l.length ≤ 1048576 ∧ ∀ x ∈ l, x.f1.size ≤ 1048576) := by
  obtain ⟨r, e, r0, r1, r2⟩ := laws_szEntryS_f l left hl hg l0 l1 k hk
  unfold laws_szWal.f
  rw [e]; simp only [Option.bind_some]
  split
  · exact ⟨-1, rfl, by omega, by omega, fun h => by omega⟩
  · exact ⟨r, rfl, r0, r1, r2⟩
theorem laws_toWal_f (t v b bt : Int) (l : List S139) (hl : l.length ≤ 1048576) (k : Nat) (hk : 1048577 < k) : laws_toWal.f k t v b bt l = some (t, v, b, bt, l.map cvEntry) := by
  unfold laws_toWal.f; rw [laws_toEntryS_f l hl k (by omega)]; rfl
theorem laws_eqWal_f (t v b bt : Int) (l : List S117) (hl : l.length ≤ 1048576) (k : Nat) (hk : 1048577 < k) : laws_eqWal.f k t v b bt l t v b bt l = some true := by
  unfold laws_eqWal.f; rw [laws_eqEntryS_f l (by omega) k (by omega)]; simp

theorem laws_markWal_f (t v b bt : Int) (l : List S117) (m : Int) (h0 : 0 < m) (h1 : m + 2 * l.length ≤ 1099511627776) (k : Nat) (hk : l.length + 40 < k) : laws_markWal.f k t v b bt l m = some (m + 2 * l.length, marksEntry m l.length) := by
  unfold laws_markWal.f; rw [laws_markEntryS_f l m h0 h1 k hk]; rfl

/-! records of entries -/
def recT : Int → List S117 → List Int
  | _, [] => []
  | n, e :: r => frameM (showRecM 2 e.f0 n 0 e.f1) ++ recT (n + 1) r
def walTextM (t v b bt : Int) (l : List S117) : List Int := if walOkM t v b bt l = true then frameM (showRecM 4 bt b 0 ⟨#[]⟩) ++ frameM (showRecM 1 t 0 v ⟨#[]⟩) ++ recT (b + 1) l else []
theorem showRecM_length (k t i v : Int) (d : ByteArray) : (showRecM k t i v d).length ≤ 922 := by
  unfold showRecM
  split
  · rename_i h
    have h1 := (rec_small h).2.1
    have l1 := varM_length t
    have l2 := varM_length i
    have l3 := varM_length (v + 1)
    simp only [List.length_append, List.length_cons, List.length_nil, bytesOf_length]
    omega
  · simp
theorem frameRec_length (k t i v : Int) (d : ByteArray) : (frameM (showRecM k t i v d)).length ≤ 930 := by
  have h := showRecM_length k t i v d
  by_cases h0 : 1 ≤ (showRecM k t i v d).length
  · rw [frameM_length h0 (by omega)]; omega
  · unfold frameM; rw [if_neg (by omega)]; simp

theorem impl_recFrame (k t i v : Int) (d : ByteArray) (f : Nat) (hf : 21000 < f) : impl_Frame.f f (strOfNums (showRecM k t i v d)) = some (strOfNums (frameM (showRecM k t i v d))) := by
  have h := showRecM_length k t i v d
  rw [impl_Frame_f _ (by rw [size_strOfNums]; omega) _ hf, bytesOf_strOfNums (showRecM_byt _ _ _ _ _)]
def rtM : List S83 → List Int
  | [] => []
  | r :: rs => frameM (showRecM r.f0 r.f1 r.f2 r.f3 r.f4) ++ rtM rs
def recsM : Int → List S117 → List S83
  | _, [] => []
  | n, e :: r => ⟨2, e.f0, n, 0, e.f1⟩ :: recsM (n + 1) r
theorem recsM_length : ∀ (l : List S117) (n : Int), (recsM n l).length = l.length
  | [], _ => rfl
  | e :: r, n => by simp [recsM, recsM_length r]
theorem rtM_recsM : ∀ (l : List S117) (n : Int), rtM (recsM n l) = recT n l
  | [], _ => rfl
  | e :: r, n => by simp only [recsM, rtM, recT, rtM_recsM r]
theorem rdR (a : List S83) (x : S83) (b : List S83) : rd_T83 (a ++ x :: b) (a.length : Int) = x := by simp [rd_T83, List.getD]
theorem impl_recsText_run : ∀ (b a : List S83) (k : Nat) (s : List Int), a.length + b.length ≤ 200 → s.length ≤ 930 * a.length → b.length + 21002 < k →
    impl_recsText.l0 k (strOfNums s) (a ++ b) ((a ++ b).length : Int) (a.length : Int) = some (strOfNums (s ++ rtM b)) := by
  intro b
  induction b with
  | nil =>
    intro a k s h0 hs hk
    obtain ⟨q, rfl⟩ : ∃ m, k = m + 1 := ⟨k - 1, by omega⟩
    simp only [impl_recsText.l0]; rw [if_neg (by simp)]; simp [rtM]
  | cons x b ih =>
    intro a k s h0 hs hk
    simp only [List.length_cons] at h0 hk
    obtain ⟨q, rfl⟩ : ∃ m, k = m + 1 := ⟨k - 1, by omega⟩
    have lf := frameRec_length x.f0 x.f1 x.f2 x.f3 x.f4
    have f := ih (a ++ [x]) q (s ++ frameM (showRecM x.f0 x.f1 x.f2 x.f3 x.f4)) (by simp; omega) (by simp; omega) (by omega)
    rw [List.append_assoc, List.singleton_append, show (((a ++ [x]).length : Nat) : Int) = (a.length : Int) + 1 by simp] at f
    have hz : (a.length : Int) < ((a ++ x :: b).length : Int) := by simp only [List.length_append, List.length_cons]; omega
    simp only [impl_recsText.l0]
    rw [if_pos hz, if_pos (by omega), if_pos hz, rdR, impl_ShowRec_f _ _ _ _ _ _ (by omega)]
    simp only [Option.bind_some]
    rw [impl_recFrame _ _ _ _ _ _ (by omega)]
    simp only [Option.bind_some]
    rw [if_pos (by rw [size_strOfNums, size_strOfNums]; omega), w64 (n := (a.length : Int) + 1) (by omega) (by omega), strOfNums_append, f, rtM, List.append_assoc]
theorem impl_recsText_f (l : List S83) (hl : l.length ≤ 200) (k : Nat) (hk : 21300 < k) : impl_recsText.f k l = some (strOfNums (rtM l)) := by
  unfold impl_recsText.f
  have f := impl_recsText_run l [] k [] (by simp; omega) (by simp) (by omega)
  simp only [List.nil_append, List.length_nil] at f
  exact f
theorem impl_entryRecs_run (n : Int) (h0 : 0 ≤ n) (h1 : n ≤ 300000) : ∀ (b a : List S117) (k : Nat) (o : List S83), a.length + b.length ≤ 100 → o.length ≤ a.length → b.length < k →
    impl_entryRecs.l0 k n o (a ++ b) ((a ++ b).length : Int) (a.length : Int) = some (o ++ recsM (n + a.length) b) := by
  intro b
  induction b with
  | nil =>
    intro a k o g0 g1 hk
    obtain ⟨q, rfl⟩ : ∃ m, k = m + 1 := ⟨k - 1, by omega⟩
    simp only [impl_entryRecs.l0]; rw [if_neg (by simp)]; simp [recsM]
  | cons x b ih =>
    intro a k o g0 g1 hk
    simp only [List.length_cons] at g0 hk
    obtain ⟨q, rfl⟩ : ∃ m, k = m + 1 := ⟨k - 1, by omega⟩
    have f := ih (a ++ [x]) q (o ++ [⟨2, x.f0, n + a.length, 0, x.f1⟩]) (by simp; omega) (by simp; omega) (by omega)
    rw [List.append_assoc, List.singleton_append, show (((a ++ [x]).length : Nat) : Int) = (a.length : Int) + 1 by simp] at f
    have hz : (a.length : Int) < ((a ++ x :: b).length : Int) := by simp only [List.length_append, List.length_cons]; omega
    simp only [impl_entryRecs.l0, rdA117]
    rw [if_pos hz, if_pos (by omega), if_pos hz, if_pos (by omega), w64 (n := n + (a.length : Int)) (by omega) (by omega), w64 (n := (a.length : Int) + 1) (by omega) (by omega), f, recsM, List.append_assoc, List.singleton_append, show n + ((a.length : Int) + 1) = n + a.length + 1 by omega]
theorem impl_entryRecs_f (l : List S117) (hl : l.length ≤ 100) (n : Int) (h0 : 0 ≤ n) (h1 : n ≤ 300000) (k : Nat) (hk : 101 < k) : impl_entryRecs.f k l n = some (recsM n l) := by
  unfold impl_entryRecs.f
  have f := impl_entryRecs_run n h0 h1 l [] k [] (by simp; omega) (by simp) (by omega)
  simp only [List.nil_append, List.length_nil] at f
  refine Eq.trans f ?_
  simp

/-! Changes -/
abbrev sameE (x y : S117) : Bool := x.f0 == y.f0 && (x.f1.toList == y.f1.toList)
def comm : List S117 → List S117 → Nat
  | x :: a, y :: b => if sameE x y = true then comm a b + 1 else 0
  | _, _ => 0
theorem comm_le : ∀ (a b : List S117), comm a b ≤ a.length ∧ comm a b ≤ b.length
  | [], b => by cases b <;> simp [comm]
  | x :: a, [] => by simp [comm]
  | x :: a, y :: b => by
    have := comm_le a b
    simp only [comm]; split <;> simp <;> omega
def tailM (b : Int) (l : List S117) (b' : Int) (l' : List S117) : List S83 :=
  (if comm l l' < l.length then [⟨3, 0, b + comm l l' + 1, 0, ⟨#[]⟩⟩] else []) ++ recsM (b' + comm l l' + 1) (l'.drop (comm l l'))
def hardFitM (t v t' v' : Int) : Bool := decide (t < t' ∨ (t' = t ∧ (v = -1 ∨ v = v')))
def chM (t v b bt : Int) (l : List S117) (t' v' b' bt' : Int) (l' : List S117) : List S83 × Bool :=
  if walOkM t v b bt l = true ∧ walOkM t' v' b' bt' l' = true ∧ b = b' ∧ bt = bt' then
    if t = t' ∧ v = v' then (tailM b l b' l', true)
    else if hardFitM t v t' v' = true then (⟨1, t', 0, v', ⟨#[]⟩⟩ :: tailM b l b' l', true) else ([], false)
  else ([], false)
theorem walOkM_len {t v b bt : Int} {l : List S117} (h : walOkM t v b bt l = true) : l.length ≤ 60 ∧ 0 ≤ b ∧ b ≤ 100000 := by
  unfold walOkM at h
  simp only [Bool.and_eq_true, decide_eq_true_eq] at h
  have h3 := h.1.2.2.2.2.1
  unfold placeM at h3; simp only [decide_eq_true_eq] at h3; omega
theorem tailM_length {b b' : Int} {l l' : List S117} : (tailM b l b' l').length ≤ 1 + l'.length := by
  unfold tailM
  rw [List.length_append, recsM_length, List.length_drop]
  split <;> simp <;> omega
theorem chM_length (t v b bt : Int) (l : List S117) (t' v' b' bt' : Int) (l' : List S117) : (chM t v b bt l t' v' b' bt' l').1.length ≤ 62 := by
  unfold chM
  split
  · rename_i h
    have := (walOkM_len h.2.1).1
    have := tailM_length (b := b) (b' := b') (l := l) (l' := l')
    split
    · simp only; omega
    · split
      · simp only [List.length_cons]; omega
      · simp
  · simp
theorem drop_at (a c : List S117) (n : Nat) (h : a.length = n) : (a ++ c).drop n = c := List.drop_left' h

theorem impl_hardFits_run (t v b bt : Int) (l : List S117) (t' v' : Int) : impl_hardFits.f t v b bt l t' v' = some (hardFitM t v t' v') := by
  unfold impl_hardFits.f hardFitM
  repeat' split
  all_goals (congr 1; rw [Bool.eq_iff_iff]; simp only [decide_eq_true_eq, beq_iff_eq, true_iff, Bool.false_eq_true, false_iff]; omega)
theorem impl_Changes_run (t v b bt t' v' b' bt' : Int) (hb : 0 ≤ b ∧ b ≤ 100000) (hb' : 0 ≤ b' ∧ b' ≤ 100000) (o : List S83) (ho : o.length ≤ 1) : ∀ (y x a a' : List S117) (k : Nat), a.length = a'.length → a.length + x.length ≤ 60 → a.length + y.length ≤ 60 → y.length + 200 < k →
    impl_Changes.l0 k o (a.length : Int) t v b bt (a ++ x) t' v' b' bt' (a' ++ y) = some (o ++ ((if comm x y < x.length then [⟨3, 0, b + a.length + comm x y + 1, 0, ⟨#[]⟩⟩] else []) ++ recsM (b' + a.length + comm x y + 1) (y.drop (comm x y))), true) := by
  intro y
  induction y with
  | nil =>
    intro x a a' k e h1 h2 hk
    obtain ⟨q, rfl⟩ : ∃ m, k = m + 1 := ⟨k - 1, by omega⟩
    have hc : comm x [] = 0 := by cases x <;> rfl
    simp only [List.length_nil] at hk
    simp only [impl_Changes.l0, hc]
    by_cases hx : 0 < x.length
    · rw [if_pos (by simp; omega), if_neg (by simp; omega), if_pos (by omega)]
      simp only [Option.bind_some]
      rw [if_pos (by omega), if_pos (by simp; omega), drop_at a' [] _ (by omega), w64 (n := b' + (a.length : Int)) (by omega) (by omega), w64 (n := b' + (a.length : Int) + 1) (by omega) (by omega), w64 (n := b + (a.length : Int)) (by omega) (by omega), w64 (n := b + (a.length : Int) + 1) (by omega) (by omega), impl_entryRecs_f _ (by simp) _ (by omega) (by omega) _ (by omega)]
      simp only [Option.bind_some]
      rw [if_pos (by simp [recsM]; omega), if_pos hx]
      simp [recsM]
    · have : x = [] := List.length_eq_zero_iff.1 (by omega)
      subst this
      rw [if_neg (by simp), if_pos (by omega), if_pos (by simp; omega), drop_at a' [] _ (by omega), w64 (n := b' + (a.length : Int)) (by omega) (by omega), w64 (n := b' + (a.length : Int) + 1) (by omega) (by omega), impl_entryRecs_f _ (by simp) _ (by omega) (by omega) _ (by omega)]
      simp only [Option.bind_some]
      rw [if_pos (by simp [recsM]; omega)]
      simp [recsM]
  | cons z y ih =>
    intro x a a' k e h1 h2 hk
    obtain ⟨q, rfl⟩ : ∃ m, k = m + 1 := ⟨k - 1, by omega⟩
    simp only [List.length_cons] at h2 hk
    have hw1 := w64 (n := b' + (a.length : Int)) (by omega) (by omega)
    have hw2 := w64 (n := b' + (a.length : Int) + 1) (by omega) (by omega)
    have hd := drop_at a' (z :: y) ((a.length : Int)).toNat (by omega)
    have he := impl_entryRecs_f (z :: y) (by simp; omega) (b' + (a.length : Int) + 1) (by omega) (by omega) q (by omega)
    cases x with
    | nil =>
      simp only [impl_Changes.l0]
      rw [if_neg (by simp), if_pos (by omega), if_pos (by simp; omega), hd, hw1, hw2, he]
      simp only [Option.bind_some]
      rw [if_pos (by rw [recsM_length]; simp; omega)]
      simp [comm]
    | cons u x =>
      simp only [List.length_cons] at h1
      have hr : rd_T117 (a' ++ z :: y) (a.length : Int) = z := by rw [show (a.length : Int) = (a'.length : Int) by omega]; exact rdA117 _ _ _
      simp only [impl_Changes.l0, rdA117, hr]
      rw [if_pos (by simp; omega), if_pos (by simp; omega), if_pos (by omega)]
      by_cases hs : sameE u z = true
      · rw [if_pos hs, w64 (n := (a.length : Int) + 1) (by omega) (by omega)]
        have f := ih x (a ++ [u]) (a' ++ [z]) q (by simp; omega) (by simp; omega) (by simp; omega) (by omega)
        rw [List.append_assoc, List.singleton_append, List.append_assoc, List.singleton_append, show (((a ++ [u]).length : Nat) : Int) = (a.length : Int) + 1 by simp] at f
        rw [f]
        simp only [comm, if_pos hs, List.length_cons, List.drop_succ_cons]
        rw [show b + ((a.length : Int) + 1) + (comm x y : Int) + 1 = b + (a.length : Int) + ((comm x y + 1 : Nat) : Int) + 1 by omega, show b' + ((a.length : Int) + 1) + (comm x y : Int) + 1 = b' + (a.length : Int) + ((comm x y + 1 : Nat) : Int) + 1 by omega]
        simp only [Nat.add_lt_add_iff_right]
      · rw [if_neg hs, if_pos (by omega)]
        simp only [Option.bind_some]
        rw [if_pos (by simp; omega), hd, hw1, hw2, w64 (n := b + (a.length : Int)) (by omega) (by omega), w64 (n := b + (a.length : Int) + 1) (by omega) (by omega), he]
        simp only [Option.bind_some]
        rw [if_pos (by rw [recsM_length]; simp; omega)]
        simp [comm, hs]
theorem impl_Changes_j2 (t v b bt : Int) (l : List S117) (t' v' b' bt' : Int) (l' : List S117) (h : walOkM t v b bt l = true) (h' : walOkM t' v' b' bt' l' = true) (o : List S83) (ho : o.length ≤ 1) (k : Nat) (hk : 300 < k) : impl_Changes.j2 k o t v b bt l t' v' b' bt' l' = some (o ++ tailM b l b' l', true) := by
  obtain ⟨q, rfl⟩ : ∃ m, k = m + 1 := ⟨k - 1, by omega⟩
  obtain ⟨n1, b0, b1⟩ := walOkM_len h
  obtain ⟨n2, c0, c1⟩ := walOkM_len h'
  have f := impl_Changes_run t v b bt t' v' b' bt' ⟨b0, b1⟩ ⟨c0, c1⟩ o ho l' l [] [] q rfl (by simp; omega) (by simp; omega) (by omega)
  simp only [List.nil_append, List.length_nil] at f
  simp only [impl_Changes.j2]
  refine Eq.trans f ?_
  simp [tailM]
theorem impl_Changes_f (t v b bt : Int) (l : List S117) (t' v' b' bt' : Int) (l' : List S117) (hl : l.length ≤ 1048576) (hl' : l'.length ≤ 1048576) (k : Nat) (hk : 1048580 < k) : impl_Changes.f k t v b bt l t' v' b' bt' l' = some (chM t v b bt l t' v' b' bt' l') := by
  unfold impl_Changes.f chM
  rw [impl_WalOk_f _ _ _ _ _ hl _ (by omega), impl_WalOk_f _ _ _ _ _ hl' _ (by omega)]
  simp only [Option.bind_some]
  obtain ⟨q, rfl⟩ : ∃ m, k = m + 1 := ⟨k - 1, by omega⟩
  have hn : impl_Changes.j0 (q + 1) true t v b bt l t' v' b' bt' l' = some ([], false) := by simp only [impl_Changes.j0]; rfl
  by_cases h : walOkM t v b bt l = true
  · rw [if_pos h]
    by_cases h' : walOkM t' v' b' bt' l' = true
    · rw [if_pos h']
      by_cases hb : b = b'
      · rw [if_pos hb]
        by_cases hbt : bt = bt'
        · rw [if_pos ⟨h, h', hb, hbt⟩, hbt, bne_self_eq_false]
          simp only [impl_Changes.j0, Option.bind_some]
          obtain ⟨p, rfl⟩ : ∃ m, q = m + 1 := ⟨q - 1, by omega⟩
          have hfit : ¬ (t = t' ∧ v = v') → impl_Changes.j1 (p + 1) [] true t v b bt' l t' v' b' bt' l' = some (if hardFitM t v t' v' = true then (⟨1, t', 0, v', ⟨#[]⟩⟩ :: tailM b l b' l', true) else ([], false)) := by
            intro hne
            simp only [impl_Changes.j1]
            rw [if_pos trivial, impl_hardFits_run]
            simp only [Option.bind_some]
            by_cases hf : hardFitM t v t' v' = true
            · rw [if_pos hf, if_pos (by simp), impl_Changes_j2 _ _ _ _ _ _ _ _ _ _ (hbt ▸ h) h' _ (by simp) _ (by omega), if_pos hf]; rfl
            · rw [if_neg hf, if_neg hf]
          rw [if_neg (by decide)]
          by_cases ht : t = t'
          · rw [if_pos ht]
            by_cases hv : v = v'
            · rw [if_pos ⟨ht, hv⟩, hv, bne_self_eq_false]
              simp only [impl_Changes.j1]
              rw [if_neg (by decide), impl_Changes_j2 _ _ _ _ _ _ _ _ _ _ (hbt ▸ hv ▸ h) h' _ (by simp) _ (by omega)]; rfl
            · rw [if_neg (fun g => hv g.2), show (v != v') = true by simpa using hv]; exact hfit (fun g => hv g.2)
          · rw [if_neg ht, if_neg (fun g => ht g.1)]; exact hfit (fun g => ht g.1)
        · rw [if_neg (fun g => hbt g.2.2.2), show (bt != bt') = true by simpa using hbt, hn]
      · rw [if_neg hb, if_neg (fun g => hb g.2.2.1), hn]
    · rw [if_neg h', if_neg (fun g => h' g.2.1), hn]
  · rw [if_neg h, if_neg (fun g => h g.1), hn]

theorem spec_l5Fits_run (t v b bt : Int) (l : List S117) (t' v' : Int) : spec_l5Fits.f t v b bt l 1 t' 0 v' ⟨#[]⟩ = some (hardFitM t v t' v') := by
  unfold spec_l5Fits.f hardFitM
  rw [if_pos rfl]
  repeat' split
  all_goals (congr 1; rw [Bool.eq_iff_iff]; simp only [decide_eq_true_eq, beq_iff_eq, true_iff, Bool.false_eq_true, false_iff]; omega)
theorem spec_Changes_recs (t' v' b' bt' : Int) (hb' : 0 ≤ b' ∧ b' ≤ 100000) : ∀ (y a : List S117) (o : List S83) (k : Nat), a.length + y.length ≤ 60 → o.length ≤ 2 + a.length → y.length < k →
    spec_Changes.l1 k o (a.length : Int) t' v' b' bt' (a ++ y) = some (o ++ recsM (b' + a.length + 1) y, true) := by
  intro y
  induction y with
  | nil =>
    intro a o k h1 h2 hk
    obtain ⟨q, rfl⟩ : ∃ m, k = m + 1 := ⟨k - 1, by omega⟩
    simp only [spec_Changes.l1]; rw [if_neg (by simp)]; simp [recsM]
  | cons z y ih =>
    intro a o k h1 h2 hk
    simp only [List.length_cons] at h1 hk
    obtain ⟨q, rfl⟩ : ∃ m, k = m + 1 := ⟨k - 1, by omega⟩
    simp only [spec_Changes.l1, rdA117]
    rw [if_pos (by simp; omega), if_pos (by omega), if_pos (by omega), w64 (n := (a.length : Int) + 1) (by omega) (by omega), w64 (n := b' + 1) (by omega) (by omega), w64 (n := b' + 1 + (a.length : Int)) (by omega) (by omega)]
    have f := ih (a ++ [z]) (o ++ [⟨2, z.f0, b' + 1 + (a.length : Int), 0, z.f1⟩]) q (by simp; omega) (by simp; omega) (by omega)
    rw [List.append_assoc, List.singleton_append, show (((a ++ [z]).length : Nat) : Int) = (a.length : Int) + 1 by simp] at f
    rw [f, recsM, List.append_assoc, List.singleton_append, show b' + 1 + (a.length : Int) = b' + (a.length : Int) + 1 by omega, show b' + ((a.length : Int) + 1) + 1 = b' + (a.length : Int) + 1 + 1 by omega]
theorem spec_Changes_j4 (t v b bt t' v' b' bt' : Int) (hb : 0 ≤ b ∧ b ≤ 100000) (hb' : 0 ≤ b' ∧ b' ≤ 100000) (o : List S83) (ho : o.length ≤ 1) (x y a a' : List S117) (k : Nat) (e : a.length = a'.length) (h1 : a.length + x.length ≤ 60) (h2 : a.length + y.length ≤ 60) (hk : y.length + 5 < k) :
    spec_Changes.j4 k o (a.length : Int) t v b bt (a ++ x) t' v' b' bt' (a' ++ y) = some (o ++ ((if 0 < x.length then [⟨3, 0, b + a.length + 1, 0, ⟨#[]⟩⟩] else []) ++ recsM (b' + a.length + 1) y), true) := by
  obtain ⟨q, rfl⟩ : ∃ m, k = m + 1 := ⟨k - 1, by omega⟩
  obtain ⟨p, rfl⟩ : ∃ m, q = m + 1 := ⟨q - 1, by omega⟩
  simp only [spec_Changes.j4, spec_Changes.j5]
  rw [show (a.length : Int) = (a'.length : Int) by omega]
  by_cases hx : 0 < x.length
  · rw [if_pos (by simp; omega), if_pos (by omega), w64 (n := b + (a'.length : Int)) (by omega) (by omega), w64 (n := b + (a'.length : Int) + 1) (by omega) (by omega), spec_Changes_recs t' v' b' bt' hb' y a' _ p (by omega) (by simp; omega) (by omega), if_pos hx, List.append_assoc]
  · rw [if_neg (by simp; omega), spec_Changes_recs t' v' b' bt' hb' y a' _ p (by omega) (by omega) (by omega), if_neg hx, List.nil_append]
theorem spec_Changes_run (t v b bt t' v' b' bt' : Int) (hb : 0 ≤ b ∧ b ≤ 100000) (hb' : 0 ≤ b' ∧ b' ≤ 100000) (o : List S83) (ho : o.length ≤ 1) : ∀ (y x a a' : List S117) (k : Nat), a.length = a'.length → a.length + x.length ≤ 60 → a.length + y.length ≤ 60 → 2 * y.length + 10 < k →
    spec_Changes.l0 k o (a.length : Int) t v b bt (a ++ x) t' v' b' bt' (a' ++ y) = some (o ++ ((if comm x y < x.length then [⟨3, 0, b + a.length + comm x y + 1, 0, ⟨#[]⟩⟩] else []) ++ recsM (b' + a.length + comm x y + 1) (y.drop (comm x y))), true) := by
  intro y
  induction y with
  | nil =>
    intro x a a' k e h1 h2 hk
    simp only [List.length_nil] at hk
    obtain ⟨q, rfl⟩ : ∃ m, k = m + 1 := ⟨k - 1, by omega⟩
    have hc : comm x [] = 0 := by cases x <;> rfl
    have hj := spec_Changes_j4 t v b bt t' v' b' bt' hb hb' o ho x [] a a' q e h1 h2 (by simp; omega)
    simp only [spec_Changes.l0, hc]
    have hfin : spec_Changes.l0 (q + 1) o (a.length : Int) t v b bt (a ++ x) t' v' b' bt' (a' ++ []) = spec_Changes.j4 q o (a.length : Int) t v b bt (a ++ x) t' v' b' bt' (a' ++ []) := by
      simp only [spec_Changes.l0]
      by_cases hx : (a.length : Int) < ((a ++ x).length : Int)
      · rw [if_pos hx, if_neg (by simp; omega)]
      · rw [if_neg hx]
    simp only [spec_Changes.l0] at hfin
    rw [hfin, hj]; simp
  | cons z y ih =>
    intro x a a' k e h1 h2 hk
    obtain ⟨q, rfl⟩ : ∃ m, k = m + 1 := ⟨k - 1, by omega⟩
    have h2' := h2
    simp only [List.length_cons] at h2 hk
    have hj := spec_Changes_j4 t v b bt t' v' b' bt' hb hb' o ho x (z :: y) a a' q e h1 h2' (by simp; omega)
    cases x with
    | nil =>
      simp only [spec_Changes.l0]
      rw [if_neg (by simp), hj]; simp [comm]
    | cons u x =>
      simp only [List.length_cons] at h1
      have hr : rd_T117 (a' ++ z :: y) (a.length : Int) = z := by rw [show (a.length : Int) = (a'.length : Int) by omega]; exact rdA117 _ _ _
      simp only [spec_Changes.l0, rdA117, hr]
      rw [if_pos (by simp; omega), if_pos (by simp; omega), if_pos (by omega)]
      by_cases hs : sameE u z = true
      · rw [if_pos hs, w64 (n := (a.length : Int) + 1) (by omega) (by omega)]
        have f := ih x (a ++ [u]) (a' ++ [z]) q (by simp; omega) (by simp; omega) (by simp; omega) (by omega)
        rw [List.append_assoc, List.singleton_append, List.append_assoc, List.singleton_append, show (((a ++ [u]).length : Nat) : Int) = (a.length : Int) + 1 by simp] at f
        rw [f]
        simp only [comm, if_pos hs, List.length_cons, List.drop_succ_cons]
        rw [show b + ((a.length : Int) + 1) + (comm x y : Int) + 1 = b + (a.length : Int) + ((comm x y + 1 : Nat) : Int) + 1 by omega, show b' + ((a.length : Int) + 1) + (comm x y : Int) + 1 = b' + (a.length : Int) + ((comm x y + 1 : Nat) : Int) + 1 by omega]
        simp only [Nat.add_lt_add_iff_right]
      · rw [if_neg hs, hj]; simp [comm, hs]
theorem spec_Changes_j2 (t v b bt : Int) (l : List S117) (t' v' b' bt' : Int) (l' : List S117) (h : walOkM t v b bt l = true) (h' : walOkM t' v' b' bt' l' = true) (o : List S83) (ho : o.length ≤ 1) (k : Nat) (hk : 300 < k) : spec_Changes.j2 k o t v b bt l t' v' b' bt' l' = some (o ++ tailM b l b' l', true) := by
  obtain ⟨q, rfl⟩ : ∃ m, k = m + 1 := ⟨k - 1, by omega⟩
  obtain ⟨n1, b0, b1⟩ := walOkM_len h
  obtain ⟨n2, c0, c1⟩ := walOkM_len h'
  have f := spec_Changes_run t v b bt t' v' b' bt' ⟨b0, b1⟩ ⟨c0, c1⟩ o ho l' l [] [] q rfl (by simp; omega) (by simp; omega) (by omega)
  simp only [List.nil_append, List.length_nil] at f
  simp only [spec_Changes.j2]
  refine Eq.trans f ?_
  simp [tailM]
theorem spec_Changes_f (t v b bt : Int) (l : List S117) (t' v' b' bt' : Int) (l' : List S117) (hl : l.length ≤ 1048576) (hl' : l'.length ≤ 1048576) (k : Nat) (hk : 1048580 < k) : spec_Changes.f k t v b bt l t' v' b' bt' l' = some (chM t v b bt l t' v' b' bt' l') := by
  unfold spec_Changes.f chM
  simp only [Option.bind_some]
  rw [spec_WalOk_f _ _ _ _ _ hl _ (by omega), spec_WalOk_f _ _ _ _ _ hl' _ (by omega)]
  simp only [Option.bind_some]
  obtain ⟨q, rfl⟩ : ∃ m, k = m + 1 := ⟨k - 1, by omega⟩
  have hn : spec_Changes.j0 (q + 1) [] true t v b bt l t' v' b' bt' l' = some ([], false) := by simp only [spec_Changes.j0]; rfl
  by_cases h : walOkM t v b bt l = true
  · rw [if_pos h]
    by_cases h' : walOkM t' v' b' bt' l' = true
    · rw [if_pos h']
      by_cases hb : b = b'
      · rw [if_pos hb]
        by_cases hbt : bt = bt'
        · rw [if_pos ⟨h, h', hb, hbt⟩, hbt, bne_self_eq_false]
          simp only [spec_Changes.j0]
          obtain ⟨p, rfl⟩ : ∃ m, q = m + 1 := ⟨q - 1, by omega⟩
          have hfit : ¬ (t = t' ∧ v = v') → spec_Changes.j1 (p + 1) [] true t v b bt' l t' v' b' bt' l' = some (if hardFitM t v t' v' = true then (⟨1, t', 0, v', ⟨#[]⟩⟩ :: tailM b l b' l', true) else ([], false)) := by
            intro hne
            simp only [spec_Changes.j1]
            rw [if_pos trivial, spec_l5Fits_run]
            simp only [Option.bind_some]
            by_cases hf : hardFitM t v t' v' = true
            · rw [if_pos hf, if_pos (by simp), spec_Changes_j2 _ _ _ _ _ _ _ _ _ _ (hbt ▸ h) h' _ (by simp) _ (by omega), if_pos hf]; rfl
            · rw [if_neg hf, if_neg hf]
          rw [if_neg (by decide)]
          by_cases ht : t = t'
          · rw [if_pos ht]
            by_cases hv : v = v'
            · rw [if_pos ⟨ht, hv⟩, hv, bne_self_eq_false]
              simp only [spec_Changes.j1]
              rw [if_neg (by decide), spec_Changes_j2 _ _ _ _ _ _ _ _ _ _ (hbt ▸ hv ▸ h) h' _ (by simp) _ (by omega)]; rfl
            · rw [if_neg (fun g => hv g.2), show (v != v') = true by simpa using hv]; exact hfit (fun g => hv g.2)
          · rw [if_neg ht, if_neg (fun g => ht g.1)]; exact hfit (fun g => ht g.1)
        · rw [if_neg (fun g => hbt g.2.2.2), show (bt != bt') = true by simpa using hbt, hn]
      · rw [if_neg hb, if_neg (fun g => hb g.2.2.1), hn]
    · rw [if_neg h', if_neg (fun g => h' g.2.1), hn]
  · rw [if_neg h, if_neg (fun g => h g.1), hn]

/-! PlanAdd -/
def stLog (s : List Int) : List S130 := [⟨2, ⟨#[108, 111, 103]⟩, ⟨#[]⟩, strOfNums s⟩, ⟨3, ⟨#[108, 111, 103]⟩, ⟨#[]⟩, ⟨#[]⟩⟩]
def planM (c : List S83 × Bool) : List S130 := if c.2 = true ∧ c.1.length ≠ 0 then stLog (rtM c.1) else []
theorem planM_length (c : List S83 × Bool) : (planM c).length ≤ 2 := by unfold planM; split <;> simp [stLog]
theorem spec_recFrame (k t i v : Int) (d : ByteArray) (f : Nat) (hf : 21000 < f) : spec_Frame.f f (strOfNums (showRecM k t i v d)) = some (strOfNums (frameM (showRecM k t i v d))) := by
  have h := showRecM_length k t i v d
  rw [spec_Frame_f _ (by rw [size_strOfNums]; omega) _ hf, bytesOf_strOfNums (showRecM_byt _ _ _ _ _)]
theorem spec_PlanAdd_run : ∀ (b a : List S83) (k : Nat) (s : List Int), a.length + b.length ≤ 200 → s.length ≤ 930 * a.length → b.length + 21002 < k →
    spec_PlanAdd.l0 k (a ++ b) (strOfNums s) (a.length : Int) = some (stLog (s ++ rtM b)) := by
  intro b
  induction b with
  | nil =>
    intro a k s h0 hs hk
    obtain ⟨q, rfl⟩ : ∃ m, k = m + 1 := ⟨k - 1, by omega⟩
    simp only [spec_PlanAdd.l0]; rw [if_neg (by simp)]; simp [rtM, stLog]
  | cons x b ih =>
    intro a k s h0 hs hk
    simp only [List.length_cons] at h0 hk
    obtain ⟨q, rfl⟩ : ∃ m, k = m + 1 := ⟨k - 1, by omega⟩
    have lf := frameRec_length x.f0 x.f1 x.f2 x.f3 x.f4
    have f := ih (a ++ [x]) q (s ++ frameM (showRecM x.f0 x.f1 x.f2 x.f3 x.f4)) (by simp; omega) (by simp; omega) (by omega)
    rw [List.append_assoc, List.singleton_append, show (((a ++ [x]).length : Nat) : Int) = (a.length : Int) + 1 by simp] at f
    have hz : (a.length : Int) < ((a ++ x :: b).length : Int) := by simp only [List.length_append, List.length_cons]; omega
    simp only [spec_PlanAdd.l0]
    rw [if_pos hz, if_pos (by omega), rdR, spec_ShowRec_f _ _ _ _ _ _ (by omega)]
    simp only [Option.bind_some]
    rw [spec_recFrame _ _ _ _ _ _ (by omega)]
    simp only [Option.bind_some]
    rw [if_pos (by rw [size_strOfNums, size_strOfNums]; omega), w64 (n := (a.length : Int) + 1) (by omega) (by omega), strOfNums_append, f, rtM, List.append_assoc]
theorem spec_PlanAdd_f (t v b bt : Int) (l : List S117) (t' v' b' bt' : Int) (l' : List S117) (hl : l.length ≤ 1048576) (hl' : l'.length ≤ 1048576) (k : Nat) (hk : 1048580 < k) : spec_PlanAdd.f k t v b bt l t' v' b' bt' l' = some (planM (chM t v b bt l t' v' b' bt' l')) := by
  have u := chM_length t v b bt l t' v' b' bt' l'
  unfold spec_PlanAdd.f planM
  rw [spec_Changes_f _ _ _ _ _ _ _ _ _ _ hl hl' _ hk]
  generalize chM t v b bt l t' v' b' bt' l' = c at u
  simp only [Option.bind_some]
  obtain ⟨q, rfl⟩ : ∃ m, k = m + 1 := ⟨k - 1, by omega⟩
  have f := spec_PlanAdd_run c.1 [] q [] (by simp; omega) (by simp) (by omega)
  simp only [List.nil_append, List.length_nil] at f
  simp only [spec_PlanAdd.j0]
  by_cases h : c.2 = true
  · rw [if_pos h]
    by_cases h0 : c.1.length = 0
    · rw [if_pos (by simp [h0]), if_neg (fun g => g.2 h0)]
    · rw [if_neg (by simp; exact fun g => h0 (by rw [g]; rfl)), if_pos ⟨h, h0⟩]; exact f
  · rw [if_neg h, if_pos trivial, if_neg (fun g => h g.1)]
theorem impl_PlanAdd_f (t v b bt : Int) (l : List S117) (t' v' b' bt' : Int) (l' : List S117) (hl : l.length ≤ 1048576) (hl' : l'.length ≤ 1048576) (k : Nat) (hk : 1048580 < k) : impl_PlanAdd.f k t v b bt l t' v' b' bt' l' = some (planM (chM t v b bt l t' v' b' bt' l')) := by
  have u := chM_length t v b bt l t' v' b' bt' l'
  unfold impl_PlanAdd.f planM
  rw [impl_Changes_f _ _ _ _ _ _ _ _ _ _ hl hl' _ hk]
  generalize chM t v b bt l t' v' b' bt' l' = c at u
  simp only [Option.bind_some]
  by_cases h : c.2 = true
  · rw [if_pos h]
    by_cases h0 : c.1.length = 0
    · rw [if_pos (by omega), if_neg (fun g => g.2 h0)]
    · rw [if_neg (by omega), impl_recsText_f c.1 (by omega) k (by omega), if_pos ⟨h, h0⟩]; rfl
  · rw [if_neg h, if_neg (fun g => h g.1)]

theorem FnExactPlanAdd (a0_0 : Int) (a0_1 : Int) (a0_2 : Int) (a0_3 : Int) (l0_4 : List S139) (a1_0 : Int) (a1_1 : Int) (a1_2 : Int) (a1_3 : Int) (l1_4 : List S139) (w0_0 : (Lit.int .i64 a0_0).wf = true) (w0_1 : (Lit.int .i64 a0_1).wf = true) (w0_2 : (Lit.int .i64 a0_2).wf = true) (w0_3 : (Lit.int .i64 a0_3).wf = true) (m0_4 : l0_4.length ≤ maxLen) (g0_4 : ∀ z ∈ l0_4, (Lit.int .i64 z.f0).wf = true ∧ z.f1.size ≤ maxLen) (w1_0 : (Lit.int .i64 a1_0).wf = true) (w1_1 : (Lit.int .i64 a1_1).wf = true) (w1_2 : (Lit.int .i64 a1_2).wf = true) (w1_3 : (Lit.int .i64 a1_3).wf = true) (m1_4 : l1_4.length ≤ maxLen) (g1_4 : ∀ z ∈ l1_4, (Lit.int .i64 z.f0).wf = true ∧ z.f1.size ≤ maxLen) : ∃ k, laws_FnExactPlanAdd.f k a0_0 a0_1 a0_2 a0_3 l0_4 a1_0 a1_1 a1_2 a1_3 l1_4 = some true := by
  refine ⟨1048700, ?_⟩
  unfold laws_FnExactPlanAdd.f
  obtain ⟨r, e, r0, r1, r2⟩ := laws_szWal_f a0_0 a0_1 a0_2 a0_3 l0_4 1048576 m0_4 (fun x hx => (g0_4 x hx).2) (by omega) (by omega) 1048700 (by omega)
  rw [e]; simp only [Option.bind_some]
  by_cases hr : r < 0
  · rw [if_pos hr]
  · rw [if_neg hr]
    obtain ⟨s, f, s0, s1, s2⟩ := laws_szWal_f a1_0 a1_1 a1_2 a1_3 l1_4 r m1_4 (fun x hx => (g1_4 x hx).2) (by omega) (by omega) 1048700 (by omega)
    rw [f]; simp only [Option.bind_some]
    by_cases hs : s < 0
    · rw [if_pos hs]
    · rw [if_neg hs]
      obtain ⟨hl, _⟩ := r2 (by omega)
      obtain ⟨hl', _⟩ := s2 (by omega)
      have hm : (l0_4.map cvEntry).length ≤ 1048576 := by rw [List.length_map]; exact hl
      have hm' : (l1_4.map cvEntry).length ≤ 1048576 := by rw [List.length_map]; exact hl'
      have t1 : ∀ k, 1048577 < k → laws_toWal.f k a0_0 a0_1 a0_2 a0_3 l0_4 = some (a0_0, a0_1, a0_2, a0_3, l0_4.map cvEntry) := fun k hk => laws_toWal_f _ _ _ _ _ hl _ hk
      have t2 : ∀ k, 1048577 < k → laws_toWal.f k a1_0 a1_1 a1_2 a1_3 l1_4 = some (a1_0, a1_1, a1_2, a1_3, l1_4.map cvEntry) := fun k hk => laws_toWal_f _ _ _ _ _ hl' _ hk
      have u1 := planM_length (chM a0_0 a0_1 a0_2 a0_3 (l0_4.map cvEntry) a1_0 a1_1 a1_2 a1_3 (l1_4.map cvEntry))
      have i1 : ∀ k, 1048580 < k → impl_PlanAdd.f k a0_0 a0_1 a0_2 a0_3 (l0_4.map cvEntry) a1_0 a1_1 a1_2 a1_3 (l1_4.map cvEntry) = some (planM (chM a0_0 a0_1 a0_2 a0_3 (l0_4.map cvEntry) a1_0 a1_1 a1_2 a1_3 (l1_4.map cvEntry))) := fun k hk => impl_PlanAdd_f _ _ _ _ _ _ _ _ _ _ hm hm' _ hk
      rw [t1 _ (by omega), t2 _ (by omega)]; simp only [Option.bind_some]
      rw [spec_PlanAdd_f _ _ _ _ _ _ _ _ _ _ hm hm' _ (by omega), i1 _ (by omega)]
      generalize planM (chM a0_0 a0_1 a0_2 a0_3 (l0_4.map cvEntry) a1_0 a1_1 a1_2 a1_3 (l1_4.map cvEntry)) = c at u1 i1
      simp only [Option.bind_some]
      rw [laws_eqStepS_f c (by omega) _ (by omega)]; simp only [Option.bind_some]
      rw [if_pos trivial, laws_eqWal_f _ _ _ _ _ hm _ (by omega)]; simp only [Option.bind_some]
      rw [if_pos trivial, laws_eqWal_f _ _ _ _ _ hm' _ (by omega)]; simp only [Option.bind_some]
      rw [if_pos trivial, laws_markWal_f _ _ _ _ _ 1 (by omega) (by omega) _ (by omega)]; simp only [Option.bind_some]
      rw [laws_markWal_f _ _ _ _ _ _ (by omega) (by omega) _ (by omega)]; simp only [Option.bind_some]
      rw [if_neg (by omega)]
      obtain ⟨q, hq⟩ : ∃ m, (1048700 : Nat) = m + 1 := ⟨1048699, rfl⟩
      rw [hq]
      simp only [laws_FnExactPlanAdd.j0, Bool.not_true]
      rw [if_neg (by decide), laws_markStepS_f _ 1 (by omega) (by omega) q (by omega)]; simp only [Option.bind_some]
      rw [laws_heldStepS_f _ 1 (by omega) (by omega) q (by omega)]; simp only [Option.bind_some]
      rw [if_neg (by omega), if_pos trivial, t1 q (by omega), t2 q (by omega)]; simp only [Option.bind_some]
      rw [i1 q (by omega)]; simp only [Option.bind_some]
      rw [laws_eqStepS_f c (by omega) q (by omega)]; simp only [Option.bind_some]
      rw [if_pos trivial]
      rw [if_neg (by omega), if_pos trivial]

end Go.Proofs.Ytfmddjbekophnaa.Pure
