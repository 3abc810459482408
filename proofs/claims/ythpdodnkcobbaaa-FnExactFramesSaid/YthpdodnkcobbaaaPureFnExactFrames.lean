/- FnExactFrames: for every text the program's Frames returns what the reference's returns, in memory of its own. -/
import Derived.Test.YthpdodnkcobbaaaPFnExactFramesx5
import Derived.Test.YthpdodnkcobbaaaBase
import Derived.Test.YthpdodnkcobbaaaNum
import Derived.Test.YthpdodnkcobbaaaNumCrc
import Derived.Test.YthpdodnkcobbaaaNumFrame
import Derived.Test.YthpdodnkcobbaaaNumDec
namespace Go.Proofs.Ythpdodnkcobbaaa.Pure
open Go.RowKit Go.Proofs.Ythpdodnkcobbaaa.PFnExactFrames Go.Proofs.YthpdodnkcobbaaaW.PrintWords Go.Proofs.YthpdodnkcobbaaaW.PrintLast Go.Proofs.YthpdodnkcobbaaaW.PrintMore Go.Proofs.Ythpdodnkcobbaaa.Base
set_option linter.unusedVariables false
set_option linter.unusedSimpArgs false

/-! ranges -/
theorem spec_l1In_run (a b c : Int) : spec_l1In.f a b c = some (decide (b ≤ a ∧ a ≤ c)) := by
  unfold spec_l1In.f
  by_cases h : a ≥ b
  · rw [if_pos h]; congr 1; simp [show b ≤ a from h]
  · rw [if_neg h]; congr 1; simp; omega

theorem impl_from_run (a b c : Int) : impl_from.f a b c = some (decide (b ≤ a ∧ a ≤ c)) := by
  unfold impl_from.f
  by_cases h : a ≥ b
  · rw [if_pos h]; congr 1; simp [show b ≤ a from h]
  · rw [if_neg h]; congr 1; simp; omega

/-! Fixed -/
def fixM (n w : Int) : List Int := if 1 ≤ w ∧ w ≤ 7 ∧ 0 ≤ n ∧ n < 256 ^ w.toNat then fixL w.toNat n else []

theorem spec_Fixed_run (w : Int) (hw : w ≤ 7) : ∀ (d k : Nat) (n i : Int) (out : ByteArray), 0 ≤ i → i + d = w → 0 ≤ n → n ≤ 9223372036854775807 → out.size = i.toNat → d < k →
    spec_Fixed.l0 k n w out i = some (if n / 256 ^ d > 0 then (⟨#[]⟩ : ByteArray) else strOfNums (fixL d n) ++ out) := by
  intro d
  induction d with
  | zero =>
    intro k n i out h0 h1 n0 n1 ho hk
    obtain ⟨k, rfl⟩ : ∃ m, k = m + 1 := ⟨k - 1, by omega⟩
    simp only [spec_Fixed.l0]
    rw [if_neg (by omega)]
    have e : strOfNums (fixL 0 n) ++ out = out := bytesOf_inj (by rw [bytesOf_append, bytesOf_strOfNums (fixL_byt _ _)]; rfl)
    rw [e]
    simp only [Int.pow_zero, Int.ediv_one]
    split <;> rfl
  | succ d ih =>
    intro k n i out h0 h1 n0 n1 ho hk
    obtain ⟨k, rfl⟩ : ∃ m, k = m + 1 := ⟨k - 1, by omega⟩
    simp only [spec_Fixed.l0, Option.bind_some]
    rw [if_pos (by omega), size_strOfNums, if_pos (by simp; omega), tmod_nn n0, tdiv_nn n0, w64 (n := n / 256) (by omega) (by omega), w64 (n := i + 1) (by omega) (by omega)]
    rw [ih k (n / 256) (i + 1) _ (by omega) (by omega) (by omega) (by omega) (by rw [ByteArray.size_append, size_strOfNums, ho]; simp; omega) (by omega), div_pow_succ]
    have e : strOfNums (fixL d (n / 256)) ++ (strOfNums [n % 256 % 256] ++ out) = strOfNums (fixL (d + 1) n) ++ out := by
      rw [fixL, ← strOfNums_append, ByteArray.append_assoc, show n % 256 % 256 = n % 256 by omega]
    rw [e]

theorem spec_Fixed_f (n w : Int) (n1 : n ≤ 9223372036854775807) (k : Nat) (hk : 8 < k) : spec_Fixed.f k n w = some (strOfNums (fixM n w)) := by
  unfold spec_Fixed.f fixM
  rw [spec_l1In_run]; simp only [Option.bind_some, decide_eq_true_eq]
  obtain ⟨k, rfl⟩ : ∃ m, k = m + 1 := ⟨k - 1, by omega⟩
  by_cases h : 1 ≤ w ∧ w ≤ 7
  · rw [if_pos h]
    simp only [spec_Fixed.j0, decide_eq_true_eq]
    by_cases h2 : n < 0
    · rw [if_pos h2, if_neg (by omega)]; rfl
    · rw [if_neg h2, spec_Fixed_run w h.2 w.toNat k n 0 _ (by omega) (by omega) (by omega) (by omega) rfl (by omega)]
      have hp := pow256_pos w.toNat
      by_cases h3 : n < 256 ^ w.toNat
      · have hc : 1 ≤ w ∧ w ≤ 7 ∧ 0 ≤ n ∧ n < 256 ^ w.toNat := ⟨h.1, h.2, by omega, h3⟩
        rw [if_pos hc, Int.ediv_eq_zero_of_lt (by omega) h3, if_neg (by omega)]
        congr 1
        exact bytesOf_inj (by rw [bytesOf_append]; simp [bytesOf])
      · have hc : ¬ (1 ≤ w ∧ w ≤ 7 ∧ 0 ≤ n ∧ n < 256 ^ w.toNat) := fun hc => h3 hc.2.2.2
        have hd := div_ge_one hp (show 256 ^ w.toNat ≤ n by omega)
        rw [if_neg hc, if_pos (by omega)]; rfl
  · rw [if_neg h, if_neg (by omega)]
    simp only [spec_Fixed.j0]; rfl

theorem impl_Fixed_run (n : Int) : ∀ (d k : Nat) (xs : List Int), d ≤ 7 → xs.length + d < 100 → d < k →
    impl_Fixed.l0 k n xs ((d : Int) - 1) = some (strOfNums (xs ++ fixL d n)) := by
  intro d
  induction d with
  | zero =>
    intro k xs h7 hx hk
    obtain ⟨k, rfl⟩ : ∃ m, k = m + 1 := ⟨k - 1, by omega⟩
    simp only [impl_Fixed.l0]
    rw [if_neg (by omega)]; simp [fixL]
  | succ d ih =>
    intro k xs h7 hx hk
    obtain ⟨k, rfl⟩ : ∃ m, k = m + 1 := ⟨k - 1, by omega⟩
    simp only [impl_Fixed.l0]
    rw [show ((d + 1 : Nat) : Int) - 1 = (d : Int) by omega, if_pos (by omega), w64 (n := 8 * (d : Int)) (by omega) (by omega), if_pos (by omega), if_pos (by omega), w64 (n := (d : Int) - 1) (by omega) (by omega), shr8 n (by omega) (by omega), ih k _ (by omega) (by simp; omega) (by omega), fixL_cons]
    simp

theorem impl_Fixed_f (n w : Int) (k : Nat) (hk : 8 < k) : impl_Fixed.f k n w = some (strOfNums (fixM n w)) := by
  unfold impl_Fixed.f fixM
  rw [impl_from_run]; simp only [Option.bind_some, decide_eq_true_eq]
  obtain ⟨k, rfl⟩ : ∃ m, k = m + 1 := ⟨k - 1, by omega⟩
  by_cases h : 1 ≤ w ∧ w ≤ 7
  · rw [if_pos h]
    by_cases h2 : n < 0
    · rw [if_pos h2, if_neg (by omega)]; simp only [impl_Fixed.j0]; rfl
    · rw [if_neg h2, w64 (n := 8 * w) (by omega) (by omega), if_pos (by omega), shr8 n (by omega) (by omega)]
      have hp := pow256_pos w.toNat
      simp only [impl_Fixed.j0, bne_iff_ne, ne_eq]
      by_cases h3 : n < 256 ^ w.toNat
      · have hc : 1 ≤ w ∧ w ≤ 7 ∧ 0 ≤ n ∧ n < 256 ^ w.toNat := ⟨h.1, h.2, by omega, h3⟩
        rw [if_pos hc, Int.ediv_eq_zero_of_lt (by omega) h3, if_neg (by simp), w64 (n := w - 1) (by omega) (by omega)]
        have := impl_Fixed_run n w.toNat k [] (by omega) (by simp; omega) (by omega)
        rw [show ((w.toNat : Nat) : Int) - 1 = w - 1 by omega] at this
        rw [this]; simp
      · have hc : ¬ (1 ≤ w ∧ w ≤ 7 ∧ 0 ≤ n ∧ n < 256 ^ w.toNat) := fun hc => h3 hc.2.2.2
        have hd := div_ge_one hp (show 256 ^ w.toNat ≤ n by omega)
        rw [if_neg hc, if_pos (by omega)]; rfl
  · rw [if_neg h, if_neg (by omega)]
    simp only [impl_Fixed.j0]; rfl

/-! ReadFixed -/
def rdFixM (s : ByteArray) (w : Int) : Int × Bool := if 1 ≤ w ∧ w ≤ 7 ∧ w ≤ (s.size : Int) then (be ((bytesOf s).take w.toNat), true) else (0, false)

theorem be_step {s : ByteArray} {i : Int} (h0 : 0 ≤ i) (h1 : i < (s.size : Int)) (h7 : i < 7) :
    be ((bytesOf s).take (i.toNat + 1)) = be ((bytesOf s).take i.toNat) * 256 + bt s i ∧ 0 ≤ be ((bytesOf s).take i.toNat) ∧ be ((bytesOf s).take i.toNat) < 281474976710656 := by
  refine ⟨by rw [bt_take h0 h1, be_snoc], ?_⟩
  obtain ⟨a, b⟩ := be_bound ((bytesOf s).take i.toNat) (byt_take (byt_bytesOf s) _)
  refine ⟨a, Int.lt_of_lt_of_le b ?_⟩
  have : ((bytesOf s).take i.toNat).length ≤ 6 := by rw [List.length_take]; omega
  exact Int.le_trans (pow256_le this) (show (256 : Int) ^ 6 ≤ 281474976710656 by decide)

theorem spec_ReadFixed_run (s : ByteArray) (w : Int) (hw : w ≤ 7) (hs : w ≤ (s.size : Int)) : ∀ (d k : Nat) (i : Int), 0 ≤ i → i + d = w → d < k →
    spec_ReadFixed.l0 k s w (be ((bytesOf s).take i.toNat)) i = some (be ((bytesOf s).take w.toNat), true) := by
  intro d
  induction d with
  | zero =>
    intro k i h0 h1 hk
    obtain ⟨k, rfl⟩ : ∃ m, k = m + 1 := ⟨k - 1, by omega⟩
    simp only [spec_ReadFixed.l0]
    rw [if_neg (by omega), show i = w by omega]
  | succ d ih =>
    intro k i h0 h1 hk
    obtain ⟨k, rfl⟩ : ∃ m, k = m + 1 := ⟨k - 1, by omega⟩
    obtain ⟨e, b0, b1⟩ := be_step (s := s) h0 (by omega) (by omega)
    obtain ⟨c0, c1⟩ := bt_range s i
    simp only [spec_ReadFixed.l0]
    rw [if_pos (by omega), if_pos h0, if_pos (by omega), w64 (n := bt s i) (by omega) (by omega), w64 (n := _ * 256) (by omega) (by omega), w64 (n := _ + bt s i) (by omega) (by omega), w64 (n := i + 1) (by omega) (by omega), ← e]
    have := ih k (i + 1) (by omega) (by omega) (by omega)
    rwa [show (i + 1).toNat = i.toNat + 1 by omega] at this

theorem spec_ReadFixed_f (s : ByteArray) (w : Int) (k : Nat) (hk : 8 < k) : spec_ReadFixed.f k s w = some (rdFixM s w) := by
  unfold spec_ReadFixed.f rdFixM
  rw [spec_l1In_run]; simp only [Option.bind_some, decide_eq_true_eq]
  obtain ⟨k, rfl⟩ : ∃ m, k = m + 1 := ⟨k - 1, by omega⟩
  by_cases h : 1 ≤ w ∧ w ≤ 7
  · rw [if_pos h]
    simp only [spec_ReadFixed.j0, decide_eq_true_eq]
    by_cases h2 : (s.size : Int) < w
    · rw [if_pos h2, if_neg (by omega)]
    · rw [if_neg h2, if_pos (by omega)]
      have := spec_ReadFixed_run s w h.2 (by omega) w.toNat k 0 (by omega) (by omega) (by omega)
      exact this
  · rw [if_neg h, if_neg (by omega)]
    simp only [spec_ReadFixed.j0]; rfl

theorem impl_ReadFixed_run (s : ByteArray) (w : Int) (hw : w ≤ 7) (hs : w ≤ (s.size : Int)) : ∀ (d k : Nat) (i : Int), 0 ≤ i → i + d = w → d < k →
    impl_ReadFixed.l0 k s (be ((bytesOf s).take i.toNat)) w i = some (be ((bytesOf s).take w.toNat), true) := by
  intro d
  induction d with
  | zero =>
    intro k i h0 h1 hk
    obtain ⟨k, rfl⟩ : ∃ m, k = m + 1 := ⟨k - 1, by omega⟩
    simp only [impl_ReadFixed.l0]
    rw [if_neg (by omega), show i = w by omega]
  | succ d ih =>
    intro k i h0 h1 hk
    obtain ⟨k, rfl⟩ : ∃ m, k = m + 1 := ⟨k - 1, by omega⟩
    obtain ⟨e, b0, b1⟩ := be_step (s := s) h0 (by omega) (by omega)
    obtain ⟨c0, c1⟩ := bt_range s i
    simp only [impl_ReadFixed.l0]
    rw [if_pos (by omega), if_pos h0, if_pos (by omega), w64 (n := bt s i) (by omega) (by omega), w64 (n := _ * 256) (by omega) (by omega), or_low b0 (by omega) (by omega) (by omega), w64 (n := i + 1) (by omega) (by omega), ← e]
    have := ih k (i + 1) (by omega) (by omega) (by omega)
    rwa [show (i + 1).toNat = i.toNat + 1 by omega] at this

theorem impl_ReadFixed_f (s : ByteArray) (w : Int) (k : Nat) (hk : 8 < k) : impl_ReadFixed.f k s w = some (rdFixM s w) := by
  unfold impl_ReadFixed.f rdFixM
  rw [impl_from_run]; simp only [Option.bind_some, decide_eq_true_eq]
  obtain ⟨k, rfl⟩ : ∃ m, k = m + 1 := ⟨k - 1, by omega⟩
  by_cases h : 1 ≤ w ∧ w ≤ 7
  · rw [if_pos h]
    simp only [impl_ReadFixed.j0, decide_eq_true_eq]
    by_cases h2 : (s.size : Int) < w
    · rw [if_pos h2, if_neg (by omega)]
    · rw [if_neg h2, if_pos (by omega)]
      have := impl_ReadFixed_run s w h.2 (by omega) w.toNat k 0 (by omega) (by omega) (by omega)
      exact this
  · rw [if_neg h, if_neg (by omega)]
    simp only [impl_ReadFixed.j0]; rfl

/-! Crc -/
theorem spec_Crc_inner (s : ByteArray) (i : Int) : ∀ (d k : Nat) (j c : Int), j + d = 8 → 0 ≤ j → 0 ≤ c → c < 4294967296 →
    spec_Crc.l1 (k + d + 1) s c i j = spec_Crc.l0 k s (crcI d c) (wrap64 (i + 1)) := by
  intro d
  induction d with
  | zero =>
    intro k j c hj h0 c0 c1
    simp only [spec_Crc.l1]
    rw [if_neg (by omega)]; rfl
  | succ d ih =>
    intro k j c hj h0 c0 c1
    obtain ⟨q, hq⟩ : ∃ q, k + d + 1 = q := ⟨_, rfl⟩
    rw [show k + (d + 1) + 1 = q + 1 by omega]
    simp only [spec_Crc.l1]
    have hr := crc1_range c0 c1
    rw [if_pos (by omega), tmod_nn c0, tdiv_nn c0, w64 (n := c / 2) (by omega) (by omega), w64 (n := j + 1) (by omega) (by omega), crcI]
    by_cases h : c % 2 = 1
    · rw [if_pos h, bits_xor64 (by omega) (by omega) (by omega) (by omega)]
      have e : crc1 c = xr (c / 2) 2197175160 := by unfold crc1; rw [if_pos h]
      rw [← e, ← hq, ih k (j + 1) _ (by omega) (by omega) hr.1 hr.2]
    · rw [if_neg h]
      have e : crc1 c = c / 2 := by unfold crc1; rw [if_neg h]
      rw [← e, ← hq, ih k (j + 1) _ (by omega) (by omega) hr.1 hr.2]

theorem spec_Crc_run (s : ByteArray) (hs : s.size ≤ 140737488351232) : ∀ (d k : Nat) (i c : Int), 0 ≤ i → i + d = s.size → 0 ≤ c → c < 4294967296 →
    spec_Crc.l0 (k + 10 * d + 1) s c i = some (4294967295 - crcL ((bytesOf s).drop i.toNat) c) := by
  intro d
  induction d with
  | zero =>
    intro k i c h0 h1 c0 c1
    simp only [spec_Crc.l0]
    rw [if_neg (by omega), List.drop_of_length_le (by rw [bytesOf_length]; omega), w64 (by omega) (by omega)]; rfl
  | succ d ih =>
    intro k i c h0 h1 c0 c1
    obtain ⟨q, hq⟩ : ∃ q, (k + 10 * d + 1) + 8 + 1 = q := ⟨_, rfl⟩
    rw [show k + 10 * (d + 1) + 1 = q + 1 by omega]
    have hlt : i < (s.size : Int) := by omega
    obtain ⟨b0, b1⟩ := bt_range s i
    obtain ⟨r0, r1⟩ := xr_range (a := c) (b := bt s i) c1 (by omega)
    obtain ⟨q0, q1⟩ := crcI_range 8 r0 r1
    simp only [spec_Crc.l0]
    rw [if_pos hlt, if_pos h0, w64 (n := bt s i) (by omega) (by omega), bits_xor64 c0 c1 b0 (by omega), ← hq, spec_Crc_inner s i 8 _ 0 _ (by omega) (by omega) r0 r1, w64 (n := i + 1) (by omega) (by omega), ih k (i + 1) _ (by omega) (by omega) q0 q1, bt_drop h0 hlt, show (i + 1).toNat = i.toNat + 1 by omega]; rfl

theorem spec_Crc_f (s : ByteArray) (hs : s.size ≤ 140737488351232) (k : Nat) (hk : 10 * s.size < k) : spec_Crc.f k s = some (crcM (bytesOf s)) := by
  obtain ⟨q, rfl⟩ : ∃ m, k = m + 10 * s.size + 1 := ⟨k - 10 * s.size - 1, by omega⟩
  unfold spec_Crc.f
  exact spec_Crc_run s hs s.size q 0 _ (by omega) (by omega) (by omega) (by omega)

theorem impl_Crc_inner (s : ByteArray) (n i : Int) : ∀ (d k : Nat) (j c : Int), j + d = 8 → 0 ≤ j → 0 ≤ c → c < 4294967296 →
    impl_Crc.l1 (k + d + 1) s c n i j = impl_Crc.l0 k s (crcI d c) n (wrap64 (i + 1)) := by
  intro d
  induction d with
  | zero =>
    intro k j c hj h0 c0 c1
    simp only [impl_Crc.l1]
    rw [if_neg (by omega)]; rfl
  | succ d ih =>
    intro k j c hj h0 c0 c1
    obtain ⟨q, hq⟩ : ∃ q, k + d + 1 = q := ⟨_, rfl⟩
    rw [show k + (d + 1) + 1 = q + 1 by omega]
    simp only [impl_Crc.l1]
    have hr := crc1_range c0 c1
    rw [if_pos (by omega), bits_and1 c0 c1, w64 (n := j + 1) (by omega) (by omega), crcI]
    by_cases h : c % 2 = 1
    · rw [if_pos h, bits_xor32 (by omega) (by omega) (by omega) (by omega)]
      have e : crc1 c = xr (c / 2) 2197175160 := by unfold crc1; rw [if_pos h]
      rw [← e, ← hq, ih k (j + 1) _ (by omega) (by omega) hr.1 hr.2]
    · rw [if_neg h]
      have e : crc1 c = c / 2 := by unfold crc1; rw [if_neg h]
      rw [← e, ← hq, ih k (j + 1) _ (by omega) (by omega) hr.1 hr.2]

theorem impl_Crc_run (s : ByteArray) (hs : s.size ≤ 140737488351232) : ∀ (d k : Nat) (i c : Int), 0 ≤ i → i + d = s.size → 0 ≤ c → c < 4294967296 →
    impl_Crc.l0 (k + 10 * d + 1) s c (s.size : Int) i = some (4294967295 - crcL ((bytesOf s).drop i.toNat) c) := by
  intro d
  induction d with
  | zero =>
    intro k i c h0 h1 c0 c1
    simp only [impl_Crc.l0]
    rw [if_neg (by omega), List.drop_of_length_le (by rw [bytesOf_length]; omega), bits_xor32 (by omega) (by omega) c0 c1, xr_ones c0 c1, w64 (by omega) (by omega)]; rfl
  | succ d ih =>
    intro k i c h0 h1 c0 c1
    obtain ⟨q, hq⟩ : ∃ q, (k + 10 * d + 1) + 8 + 1 = q := ⟨_, rfl⟩
    rw [show k + 10 * (d + 1) + 1 = q + 1 by omega]
    have hlt : i < (s.size : Int) := by omega
    obtain ⟨b0, b1⟩ := bt_range s i
    obtain ⟨r0, r1⟩ := xr_range (a := c) (b := bt s i) c1 (by omega)
    obtain ⟨q0, q1⟩ := crcI_range 8 r0 r1
    simp only [impl_Crc.l0]
    rw [if_pos hlt, if_pos h0, if_pos hlt, show bt s i % 4294967296 = bt s i by omega, bits_xor32 c0 c1 b0 (by omega), ← hq, impl_Crc_inner s _ i 8 _ 0 _ (by omega) (by omega) r0 r1, w64 (n := i + 1) (by omega) (by omega), ih k (i + 1) _ (by omega) (by omega) q0 q1, bt_drop h0 hlt, show (i + 1).toNat = i.toNat + 1 by omega]; rfl

theorem impl_Crc_f (s : ByteArray) (hs : s.size ≤ 140737488351232) (k : Nat) (hk : 10 * s.size < k) : impl_Crc.f k s = some (crcM (bytesOf s)) := by
  obtain ⟨q, rfl⟩ : ∃ m, k = m + 10 * s.size + 1 := ⟨k - 10 * s.size - 1, by omega⟩
  unfold impl_Crc.f
  exact impl_Crc_run s hs s.size q 0 _ (by omega) (by omega) (by omega) (by omega)

/-! Frame -/
theorem spec_Frame_f (s : ByteArray) (hs : s.size ≤ 140737488351232) (k : Nat) (hk : 21000 < k) : spec_Frame.f k s = some (strOfNums (frameM (bytesOf s))) := by
  obtain ⟨k, rfl⟩ : ∃ m, k = m + 1 := ⟨k - 1, by omega⟩
  unfold spec_Frame.f frameM
  rw [bytesOf_length]
  by_cases h0 : (s.size : Int) = 0
  · rw [if_pos h0, if_neg (by omega)]; simp only [spec_Frame.j0]; rfl
  · rw [if_neg h0]
    simp only [spec_Frame.j0]
    by_cases h1 : (s.size : Int) > 2000
    · rw [if_pos (by simpa using h1), if_neg (by omega)]; rfl
    · have hf : fixM (s.size : Int) 4 = fixL 4 s.size := by unfold fixM; rw [if_pos]; · rfl
                                                            · refine ⟨by omega, by omega, by omega, ?_⟩; rw [show ((4 : Int).toNat) = 4 from rfl]; omega
      have hz : (strOfNums (fixL 4 (s.size : Int))).size = 4 := by rw [size_strOfNums, fixL_length]
      have hb : bytesOf (strOfNums (fixL 4 (s.size : Int)) ++ s) = fixL 4 s.size ++ bytesOf s := by rw [bytesOf_append, bytesOf_strOfNums (fixL_byt _ _)]
      obtain ⟨c0, c1⟩ := crcM_range (l := fixL 4 (s.size : Int) ++ bytesOf s) (byt_append.2 ⟨fixL_byt _ _, byt_bytesOf s⟩)
      have hf2 : fixM (crcM (fixL 4 (s.size : Int) ++ bytesOf s)) 4 = fixL 4 (crcM (fixL 4 s.size ++ bytesOf s)) := by
        unfold fixM; rw [if_pos]; · rfl
        · refine ⟨by omega, by omega, c0, ?_⟩; rw [show ((4 : Int).toNat) = 4 from rfl]; omega
      rw [if_neg (by simpa using h1), if_pos (by omega), spec_Fixed_f _ _ (by omega) _ (by omega), hf]
      simp only [Option.bind_some]
      rw [if_pos (by omega), spec_Crc_f _ (by rw [ByteArray.size_append]; omega) _ (by rw [ByteArray.size_append]; omega), hb]
      simp only [Option.bind_some]
      rw [spec_Fixed_f _ _ (by omega) _ (by omega), hf2]
      simp only [Option.bind_some]
      rw [if_pos (by simp only [ByteArray.size_append, hz, size_strOfNums, fixL_length]; omega), if_pos (by simp only [ByteArray.size_append, hz, size_strOfNums, fixL_length]; omega), ← strOfNums_append, ← strOfNums_append, strOfNums_bytesOf]


theorem impl_Frame_f (s : ByteArray) (hs : s.size ≤ 140737488351232) (k : Nat) (hk : 21000 < k) : impl_Frame.f k s = some (strOfNums (frameM (bytesOf s))) := by
  unfold impl_Frame.f frameM
  rw [bytesOf_length, impl_from_run]
  simp only [Option.bind_some, decide_eq_true_eq]
  by_cases h1 : 1 ≤ (s.size : Int) ∧ (s.size : Int) ≤ 2000
  · rw [if_pos h1, if_pos h1]
    · have hf : fixM (s.size : Int) 4 = fixL 4 s.size := by unfold fixM; rw [if_pos]; · rfl
                                                            · refine ⟨by omega, by omega, by omega, ?_⟩; rw [show ((4 : Int).toNat) = 4 from rfl]; omega
      have hz : (strOfNums (fixL 4 (s.size : Int))).size = 4 := by rw [size_strOfNums, fixL_length]
      have hb : bytesOf (strOfNums (fixL 4 (s.size : Int)) ++ s) = fixL 4 s.size ++ bytesOf s := by rw [bytesOf_append, bytesOf_strOfNums (fixL_byt _ _)]
      obtain ⟨c0, c1⟩ := crcM_range (l := fixL 4 (s.size : Int) ++ bytesOf s) (byt_append.2 ⟨fixL_byt _ _, byt_bytesOf s⟩)
      have hf2 : fixM (crcM (fixL 4 (s.size : Int) ++ bytesOf s)) 4 = fixL 4 (crcM (fixL 4 s.size ++ bytesOf s)) := by
        unfold fixM; rw [if_pos]; · rfl
        · refine ⟨by omega, by omega, c0, ?_⟩; rw [show ((4 : Int).toNat) = 4 from rfl]; omega
      rw [impl_Fixed_f _ _ _ (by omega), hf]
      simp only [Option.bind_some]
      rw [if_pos (by omega), impl_Crc_f _ (by rw [ByteArray.size_append]; omega) _ (by rw [ByteArray.size_append]; omega), hb]
      simp only [Option.bind_some]
      rw [impl_Fixed_f _ _ _ (by omega), hf2]
      simp only [Option.bind_some]
      rw [if_pos (by simp only [ByteArray.size_append, hz, size_strOfNums, fixL_length]; omega), if_pos (by simp only [ByteArray.size_append, hz, size_strOfNums, fixL_length]; omega), ← strOfNums_append, ← strOfNums_append, strOfNums_bytesOf]
  · rw [if_neg h1, if_neg h1]; rfl


/-! Unframe -/
theorem bytes_same {a b : ByteArray} {l : List Int} (hl : Byt l) (ha : a = strOfNums l) : a.toList = b.toList ↔ l = bytesOf b := by
  rw [toList_eq_iff, ha]
  constructor
  · intro h; rw [← h, bytesOf_strOfNums hl]
  · intro h; rw [h, strOfNums_bytesOf]

theorem spec_Unframe_f (s : ByteArray) (hs : s.size ≤ 140737488351232) (k : Nat) (hk : 21001 < k) : spec_Unframe.f k s = some (unfM s) := by
  obtain ⟨k, rfl⟩ : ∃ m, k = m + 1 := ⟨k - 1, by omega⟩
  unfold spec_Unframe.f unfM
  rw [spec_ReadFixed_f _ _ _ (by omega)]
  simp only [Option.bind_some]
  unfold rdFixM
  by_cases h4 : (s.size : Int) < 4
  · rw [if_neg (show ¬ (1 ≤ (4 : Int) ∧ (4 : Int) ≤ 7 ∧ (4 : Int) ≤ (s.size : Int)) by omega), if_neg (by decide), if_pos h4]
  · rw [if_pos (show 1 ≤ (4 : Int) ∧ (4 : Int) ≤ 7 ∧ (4 : Int) ≤ (s.size : Int) by omega), if_pos rfl, if_neg h4]
    simp only
    rw [show (4 : Int).toNat = 4 from rfl]
    obtain ⟨b0, b1⟩ := be_bound ((bytesOf s).take 4) (byt_take (byt_bytesOf s) 4)
    have b2 : ((bytesOf s).take 4).length = 4 := by rw [List.length_take, bytesOf_length]; omega
    rw [b2] at b1
    generalize hn : be ((bytesOf s).take 4) = n at *
    simp only [spec_Unframe.j0]
    by_cases h0 : n = 0
    · rw [if_pos h0, if_pos trivial, if_neg (show ¬ (1 ≤ n ∧ n ≤ 2000) by omega)]
    · rw [if_neg h0]
      by_cases h1 : n > 2000
      · rw [if_pos (by simpa using h1), if_neg (show ¬ (1 ≤ n ∧ n ≤ 2000) by omega)]
      · rw [if_neg (by simpa using h1), if_pos (show 1 ≤ n ∧ n ≤ 2000 by omega), w64 (n := 8 + n) (by omega) (by omega), show 8 + n = n + 8 by omega]
        by_cases h2 : (s.size : Int) < n + 8
        · rw [if_pos h2, if_pos h2]
        · have he : bytesOf (s.extract 8 (n + 8).toNat) = ((bytesOf s).take (n + 8).toNat).drop 8 := bytesOf_extract _ _ _
          have hz : (s.extract 8 (n + 8).toNat).size ≤ 2000 := by rw [size_bytes, he, List.length_drop, List.length_take]; omega
          rw [if_neg h2, if_neg h2, if_pos (show 8 ≤ n + 8 by omega), if_pos (show n + 8 ≤ (s.size : Int) by omega), spec_Frame_f _ (by omega) _ (by omega)]
          simp only [Option.bind_some]
          have hq := bytes_same (b := s.extract 0 (n + 8).toNat) (frameM_byt (byt_bytesOf (s.extract 8 (n + 8).toNat))) rfl
          rw [bytesOf_extract s 0, List.drop_zero] at hq
          rw [if_pos (show 0 ≤ n + 8 by omega)]
          rw [he] at hq ⊢
          simp only [hq]
          split <;> rfl

theorem bytes_sameI {a b : ByteArray} {l : List Int} (hl : Byt l) (ha : a = strOfNums l) : a.toList = b.toList ↔ l = bytesOf b := by
  rw [toList_eq_iff, ha]
  constructor
  · intro h; rw [← h, bytesOf_strOfNums hl]
  · intro h; rw [h, strOfNums_bytesOf]

theorem impl_Unframe_f (s : ByteArray) (hs : s.size ≤ 140737488351232) (k : Nat) (hk : 21001 < k) : impl_Unframe.f k s = some (unfM s) := by
  unfold impl_Unframe.f unfM
  rw [impl_ReadFixed_f _ _ _ (by omega)]
  simp only [Option.bind_some]
  unfold rdFixM
  by_cases h4 : (s.size : Int) < 4
  · rw [if_neg (show ¬ (1 ≤ (4 : Int) ∧ (4 : Int) ≤ 7 ∧ (4 : Int) ≤ (s.size : Int)) by omega), if_neg (by decide), if_pos h4]
  · rw [if_pos (show 1 ≤ (4 : Int) ∧ (4 : Int) ≤ 7 ∧ (4 : Int) ≤ (s.size : Int) by omega), if_pos rfl, if_neg h4]
    simp only
    rw [show (4 : Int).toNat = 4 from rfl]
    obtain ⟨b0, b1⟩ := be_bound ((bytesOf s).take 4) (byt_take (byt_bytesOf s) 4)
    have b2 : ((bytesOf s).take 4).length = 4 := by rw [List.length_take, bytesOf_length]; omega
    rw [b2] at b1
    generalize hn : be ((bytesOf s).take 4) = n at *
    rw [impl_from_run]
    simp only [Option.bind_some, decide_eq_true_eq]
    by_cases h0 : 1 ≤ n ∧ n ≤ 2000
    · rw [if_pos h0, if_pos h0, w64 (n := n + 8) (by omega) (by omega)]
      · by_cases h2 : (s.size : Int) < n + 8
        · rw [if_pos h2, if_pos h2]
        · have he : bytesOf (s.extract 8 (n + 8).toNat) = ((bytesOf s).take (n + 8).toNat).drop 8 := bytesOf_extract _ _ _
          have hz : (s.extract 8 (n + 8).toNat).size ≤ 2000 := by rw [size_bytes, he, List.length_drop, List.length_take]; omega
          rw [if_neg h2, if_neg h2, if_pos (show 8 ≤ n + 8 by omega), if_pos (show n + 8 ≤ (s.size : Int) by omega), impl_Frame_f _ (by omega) _ (by omega)]
          simp only [Option.bind_some]
          have hq := bytes_sameI (b := s.extract 0 (n + 8).toNat) (frameM_byt (byt_bytesOf (s.extract 8 (n + 8).toNat))) rfl
          rw [bytesOf_extract s 0, List.drop_zero] at hq
          rw [if_pos (show 0 ≤ n + 8 by omega)]
          rw [he] at hq ⊢
          simp only [hq]
          split <;> rfl
    · rw [if_neg h0, if_neg h0]


/-! Frames -/
theorem frs_more : ∀ (f : Nat) (s : ByteArray) (a : Int), 0 ≤ a → a ≤ (s.size : Int) → (s.size : Int) - a < f → ∀ g, f ≤ g → frs g s a = frs f s a := by
  intro f
  induction f with
  | zero => intro s a h0 h1 h2; omega
  | succ f ih =>
    intro s a h0 h1 h2 g hg
    obtain ⟨g, rfl⟩ : ∃ m, g = m + 1 := ⟨g - 1, by omega⟩
    simp only [frs]
    by_cases hc : (unfM (s.extract a.toNat s.size)).2.2 = 0
    · obtain ⟨n0, n1, n2⟩ := unfM_ok hc
      rw [extract_size s a.toNat (by omega)] at n2
      rw [if_pos hc, if_pos hc, ih s _ (by omega) (by omega) (by omega) g (by omega)]
    · rw [if_neg hc, if_neg hc]

theorem spec_Frames_run (s : ByteArray) (hs : s.size ≤ 1048576) : ∀ (f k : Nat) (a : Int) (xs : List ByteArray), 0 ≤ a → a ≤ (s.size : Int) → (s.size : Int) - a < f → xs.length + f < 8796093022208 → 22000 + f < k →
    spec_Frames.l0 k s xs a = some (xs ++ (frs f s a).1, (frs f s a).2) := by
  intro f
  induction f with
  | zero => intro k a xs h0 h1 h2; omega
  | succ f ih =>
    intro k a xs h0 h1 h2 hx hk
    obtain ⟨k, rfl⟩ : ∃ m, k = m + 1 := ⟨k - 1, by omega⟩
    have hz := extract_size s a.toNat (by omega)
    simp only [spec_Frames.l0, frs]
    by_cases he : a < (s.size : Int)
    · rw [if_pos he, if_pos h0, if_pos h1, spec_Unframe_f _ (by omega) _ (by omega)]
      simp only [Option.bind_some]
      by_cases hc : (unfM (s.extract a.toNat s.size)).2.2 = 0
      · obtain ⟨n0, n1, n2⟩ := unfM_ok hc
        rw [hz] at n2
        rw [if_pos hc, if_pos hc, if_pos (by omega), w64 (by omega) (by omega), ih k _ _ (by omega) (by omega) (by omega) (by simp; omega) (by omega)]
        simp
      · rw [if_neg hc, if_neg hc]; simp
    · have hc : ¬ (unfM (s.extract a.toNat s.size)).2.2 = 0 := by rw [unfM_end (by omega)]; decide
      rw [if_neg he, if_neg hc]; simp

def frM (s : ByteArray) : List ByteArray × Int := frs (s.size + 1) s 0
theorem spec_Frames_f (s : ByteArray) (hs : s.size ≤ 1048576) (k : Nat) (hk : 1100000 < k) : spec_Frames.f k s = some (frM s) := by
  unfold spec_Frames.f frM
  rw [spec_Frames_run s hs (s.size + 1) k 0 [] (by omega) (by omega) (by omega) (by simp; omega) (by omega)]; simp

theorem frs_length : ∀ (f : Nat) (s : ByteArray) (a : Int), (frs f s a).1.length ≤ f := by
  intro f
  induction f with
  | zero => intro s a; simp [frs]
  | succ f ih =>
    intro s a
    simp only [frs]
    split
    · have := ih s (a + (unfM (s.extract a.toNat s.size)).2.1); simp; exact this
    · simp

theorem impl_Frames_run (s : ByteArray) (hs : s.size ≤ 140737488351232) : ∀ (f k : Nat) (a : Int) (xs : List ByteArray), 0 ≤ a → a ≤ (s.size : Int) → (s.size : Int) - a < f → xs.length + f < 8796093022208 → 22000 + f < k →
    impl_Frames.l0 k s xs a = some (xs ++ (frs f s a).1, (frs f s a).2) := by
  intro f
  induction f with
  | zero => intro k a xs h0 h1 h2; omega
  | succ f ih =>
    intro k a xs h0 h1 h2 hx hk
    obtain ⟨k, rfl⟩ : ∃ m, k = m + 1 := ⟨k - 1, by omega⟩
    have hz := extract_size s a.toNat (by omega)
    simp only [impl_Frames.l0, frs]
    rw [if_pos h0, if_pos h1, impl_Unframe_f _ (by omega) _ (by omega)]
    simp only [Option.bind_some]
    by_cases hc : (unfM (s.extract a.toNat s.size)).2.2 = 0
    · obtain ⟨n0, n1, n2⟩ := unfM_ok hc
      rw [hz] at n2
      rw [if_pos hc, if_pos hc, if_pos (by omega), w64 (by omega) (by omega), ih k _ _ (by omega) (by omega) (by omega) (by simp; omega) (by omega)]
      simp
    · rw [if_neg hc, if_neg hc]; simp
theorem impl_Frames_f (s : ByteArray) (hs : s.size ≤ 1048576) (k : Nat) (hk : 1100000 < k) : impl_Frames.f k s = some (frs (s.size + 1) s 0) := by
  unfold impl_Frames.f
  rw [impl_Frames_run s (by omega) (s.size + 1) k 0 [] (by omega) (by omega) (by omega) (by simp; omega) (by omega)]; simp

/-! marks -/
def mT (n : Int) : ByteArray := strOfNums (109 :: decN n.toNat)
theorem str109 : (⟨#[109]⟩ : ByteArray) = strOfNums [109] := by decide

theorem laws_markText_loop : ∀ (d k n : Nat) (l : List Int), n < 10 ^ d → (0 < n → True) → n ≤ 4611686018427387904 → l.length + d < 90 → d < k →
    laws_markText.l0 k (n : Int) (strOfNums l) = some (strOfNums (109 :: ((if n = 0 then [] else decN n) ++ l))) := by
  intro d
  induction d with
  | zero =>
    intro k n l n1 _ hd hl hk
    obtain ⟨q, rfl⟩ : ∃ m, k = m + 1 := ⟨k - 1, by omega⟩
    have hn : n = 0 := by omega
    simp only [laws_markText.l0]
    rw [if_neg (by omega), if_pos (by rw [size_strOfNums]; omega), if_pos hn, str109, strOfNums_append]; rfl
  | succ d ih =>
    intro k n l n1 _ hd hl hk
    obtain ⟨q, rfl⟩ : ∃ m, k = m + 1 := ⟨k - 1, by omega⟩
    by_cases h0 : n = 0
    · simp only [laws_markText.l0]
      rw [if_neg (by omega), if_pos (by rw [size_strOfNums]; omega), if_pos h0, str109, strOfNums_append]; rfl
    · simp only [laws_markText.l0]
      rw [if_pos (by omega), tmod_nn (by omega), tdiv_nn (by omega), w64 (n := 48 + (n : Int) % 10) (by omega) (by omega), w64 (n := (n : Int) / 10) (by omega) (by omega)]
      simp only [Option.bind_some]
      rw [if_pos (by rw [size_strOfNums, size_strOfNums]; simp; omega), strOfNums_append, show (n : Int) / 10 = ((n / 10 : Nat) : Int) by omega, ih q (n / 10) _ (by rw [pow10] at n1; omega) (fun _ => trivial) (by omega) (by simp; omega) (by omega), if_neg h0]
      by_cases h : n < 10
      · rw [if_pos (by omega), decN_lt h, show (48 + (n : Int) % 10) % 256 = 48 + (n : Int) by omega]; simp
      · rw [if_neg (by omega), decN_ge h, show (48 + (n : Int) % 10) % 256 = 48 + ((n % 10 : Nat) : Int) by omega]; simp

theorem laws_markText_f (n : Int) (h0 : 0 < n) (h1 : n ≤ 4611686018427387904) (k : Nat) (hk : 30 < k) : laws_markText.f k n = some (mT n) := by
  unfold laws_markText.f
  rw [if_neg (by omega)]
  have := laws_markText_loop 19 k n.toNat [] (by omega) (fun _ => trivial) (by omega) (by simp) (by omega)
  rw [show ((n.toNat : Nat) : Int) = n by omega] at this
  rw [show (⟨#[]⟩ : ByteArray) = strOfNums [] from rfl, this, if_neg (by omega)]; simp [mT]

/-! slices of texts: equal, marked, held -/
def marksS : Int → Nat → List ByteArray
  | _, 0 => []
  | m, n + 1 => mT m :: marksS (m + 1) n
theorem marksS_length : ∀ (n : Nat) (m : Int), (marksS m n).length = n
  | 0, _ => rfl
  | n + 1, m => by simp [marksS, marksS_length n]

theorem laws_eqStringS_run (l : List ByteArray) (hl : l.length ≤ 1099511627776) : ∀ (d k : Nat) (i : Int), 0 ≤ i → i + d = l.length → d < k → laws_eqStringS.l0 k l l i = some true := by
  intro d
  induction d with
  | zero =>
    intro k i h0 h1 hk
    obtain ⟨q, rfl⟩ : ∃ m, k = m + 1 := ⟨k - 1, by omega⟩
    simp only [laws_eqStringS.l0]; rw [if_neg (by omega)]
  | succ d ih =>
    intro k i h0 h1 hk
    obtain ⟨q, rfl⟩ : ∃ m, k = m + 1 := ⟨k - 1, by omega⟩
    simp only [laws_eqStringS.l0]
    rw [if_pos (by omega), if_pos h0, if_pos (by omega), w64 (n := i + 1) (by omega) (by omega), ih q (i + 1) (by omega) (by omega) (by omega)]; simp
theorem laws_eqStringS_f (l : List ByteArray) (hl : l.length ≤ 1099511627776) (k : Nat) (hk : l.length < k) : laws_eqStringS.f k l l = some true := by
  unfold laws_eqStringS.f; rw [if_pos rfl]; exact laws_eqStringS_run l hl l.length k 0 (by omega) (by omega) hk

theorem laws_markStringS_run : ∀ (b : List ByteArray) (a : List ByteArray) (k : Nat) (m : Int), 0 < m → m + b.length ≤ 1099511627776 → a.length + b.length ≤ 1099511627776 → b.length + 40 < k →
    laws_markStringS.l0 k (a ++ b) m (a.length : Int) = some (m + b.length, a ++ marksS m b.length) := by
  intro b
  induction b with
  | nil =>
    intro a k m h0 h1 h2 hk
    obtain ⟨q, rfl⟩ : ∃ m, k = m + 1 := ⟨k - 1, by omega⟩
    simp only [laws_markStringS.l0]; rw [if_neg (by simp)]; simp [marksS]
  | cons x b ih =>
    intro a k m h0 h1 h2 hk
    simp only [List.length_cons] at h1 h2 hk
    obtain ⟨q, rfl⟩ : ∃ m, k = m + 1 := ⟨k - 1, by omega⟩
    simp only [laws_markStringS.l0]
    rw [if_pos (by simp; omega), laws_markText_f m h0 (by omega) q (by omega)]
    simp only [Option.bind_some]
    rw [if_pos (by omega), w64 (n := m + 1) (by omega) (by omega), w64 (n := (a.length : Int) + 1) (by omega) (by omega), show ((a.length : Int)).toNat = a.length by omega, List.set_append_right _ _ (Nat.le_refl _), Nat.sub_self, List.set_cons_zero]
    have := ih (a ++ [mT m]) q (m + 1) (by omega) (by omega) (by simp; omega) (by omega)
    rw [List.append_assoc, List.singleton_append, show (((a ++ [mT m]).length : Nat) : Int) = (a.length : Int) + 1 by simp] at this
    rw [this]
    simp [marksS]; omega
theorem laws_markStringS_f (l : List ByteArray) (m : Int) (h0 : 0 < m) (h1 : m + l.length ≤ 1099511627776) (k : Nat) (hk : l.length + 40 < k) : laws_markStringS.f k l m = some (m + l.length, marksS m l.length) := by
  unfold laws_markStringS.f
  have := laws_markStringS_run l [] k m h0 h1 (by simp; omega) hk
  simpa using this

theorem laws_heldStringS_run : ∀ (n : Nat) (a : List ByteArray) (k : Nat) (m : Int), 0 < m → m + n ≤ 1099511627776 → a.length + n ≤ 1099511627776 → n + 40 < k →
    laws_heldStringS.l0 k (a ++ marksS m n) m (a.length : Int) = some (m + n) := by
  intro n
  induction n with
  | zero =>
    intro a k m h0 h1 h2 hk
    obtain ⟨q, rfl⟩ : ∃ m, k = m + 1 := ⟨k - 1, by omega⟩
    simp only [laws_heldStringS.l0]; rw [if_neg (by simp [marksS])]; simp
  | succ n ih =>
    intro a k m h0 h1 h2 hk
    obtain ⟨q, rfl⟩ : ∃ m, k = m + 1 := ⟨k - 1, by omega⟩
    have hr : rdOf ByteArray.empty (a ++ marksS m (n + 1)) (a.length : Int) = mT m := by
      simp [rdOf, marksS, List.getD]
    simp only [laws_heldStringS.l0]
    rw [if_pos (by simp [marksS_length]; omega), if_pos (by omega), laws_markText_f m h0 (by omega) q (by omega), hr]
    simp only [Option.bind_some]
    rw [if_pos trivial, w64 (n := m + 1) (by omega) (by omega), w64 (n := (a.length : Int) + 1) (by omega) (by omega)]
    have := ih (a ++ [mT m]) q (m + 1) (by omega) (by omega) (by simp; omega) (by omega)
    rw [List.append_assoc, List.singleton_append, show (((a ++ [mT m]).length : Nat) : Int) = (a.length : Int) + 1 by simp] at this
    rw [marksS, this]; congr 1; omega
theorem laws_heldStringS_f (n : Nat) (m : Int) (h0 : 0 < m) (h1 : m + n ≤ 1099511627776) (k : Nat) (hk : n + 40 < k) : laws_heldStringS.f k (marksS m n) m = some (m + n) := by
  unfold laws_heldStringS.f
  have := laws_heldStringS_run n [] k m h0 h1 (by simp; omega) hk
  simpa using this

theorem FnExactFrames : laws_FnExactFrames.Pure := by
  intro s hs
  refine ⟨3000000, ?_⟩
  unfold laws_FnExactFrames.f
  by_cases hb : (s.size : Int) > 1048576
  · rw [if_pos hb]
  · have hl := frs_length (s.size + 1) s 0
    rw [if_neg hb, spec_Frames_f s (by omega) _ (by omega), impl_Frames_f s (by omega) _ (by omega)]
    simp only [Option.bind_some, frM]
    rw [laws_eqStringS_f _ (by omega) _ (by omega)]
    simp only [Option.bind_some, if_true, laws_FnExactFrames.j0, bne_self_eq_false]
    rw [if_neg (by decide), laws_markStringS_f _ 1 (by omega) (by omega) _ (by omega)]
    simp only [Option.bind_some]
    rw [laws_heldStringS_f _ 1 (by omega) (by omega) _ (by omega)]
    simp only [Option.bind_some]
    rw [if_neg (by omega), if_pos trivial, impl_Frames_f s (by omega) _ (by omega)]
    simp only [Option.bind_some]
    rw [laws_eqStringS_f _ (by omega) _ (by omega)]
    simp only [Option.bind_some, if_true, laws_FnExactFrames.j1, bne_self_eq_false]
    rw [if_neg (by decide), laws_heldStringS_f _ 1 (by omega) (by omega) _ (by omega)]
    simp only [Option.bind_some]
    rw [if_neg (by omega), if_pos trivial]

end Go.Proofs.Ythpdodnkcobbaaa.Pure
