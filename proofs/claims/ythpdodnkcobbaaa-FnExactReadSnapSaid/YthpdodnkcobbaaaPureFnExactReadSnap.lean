/- The snapshot's text is read as the reference reads it. -/
import Derived.Test.YthpdodnkcobbaaaPFnExactReadSnapx1
import Derived.Test.YthpdodnkcobbaaaPFnExactReadSnapx2
import Derived.Test.YthpdodnkcobbaaaPFnExactReadSnapx3
import Derived.Test.YthpdodnkcobbaaaPFnExactReadSnapx4
import Derived.Test.YthpdodnkcobbaaaPFnExactReadSnapx5
import Derived.Test.YthpdodnkcobbaaaPFnExactReadSnapx6
import Derived.Test.YthpdodnkcobbaaaBase
import Derived.Test.YthpdodnkcobbaaaNum
import Derived.Test.YthpdodnkcobbaaaNumCrc
import Derived.Test.YthpdodnkcobbaaaNumFrame
import Derived.Test.YthpdodnkcobbaaaNumRec
import Derived.Test.YthpdodnkcobbaaaNumSnap
namespace Go.Proofs.Ythpdodnkcobbaaa.Pure
open Go.RowKit Go.Proofs.Ythpdodnkcobbaaa.PFnExactReadSnap Go.Proofs.YthpdodnkcobbaaaW.PrintWords Go.Proofs.YthpdodnkcobbaaaW.PrintLast Go.Proofs.YthpdodnkcobbaaaW.PrintMore Go.Proofs.Ythpdodnkcobbaaa.Base
set_option linter.unusedVariables false
set_option linter.unusedSimpArgs false

/-! ranges -/
theorem spec_l1In_run (a b c : Int) : spec_l1In.f a b c = some (decide (b ≤ a ∧ a ≤ c)) := by
  unfold spec_l1In.f
  by_cases h : a ≥ b
  · rw [if_pos h]; congr 1; simp [show b ≤ a from h]
  · rw [if_neg h]; congr 1; simp; omega

theorem impl_from_run (a b c : Int) : impl_from.f a b c = some (decide (b ≤ a ∧ a ≤ c)) := by
  unfold impl_from.f
  by_cases h : a ≥ b
  · rw [if_pos h]; congr 1; simp [show b ≤ a from h]
  · rw [if_neg h]; congr 1; simp; omega

/-! Fixed -/
def fixM (n w : Int) : List Int := if 1 ≤ w ∧ w ≤ 7 ∧ 0 ≤ n ∧ n < 256 ^ w.toNat then fixL w.toNat n else []

theorem spec_Fixed_run (w : Int) (hw : w ≤ 7) : ∀ (d k : Nat) (n i : Int) (out : ByteArray), 0 ≤ i → i + d = w → 0 ≤ n → n ≤ 9223372036854775807 → out.size = i.toNat → d < k →
    spec_Fixed.l0 k n w out i = some (if n / 256 ^ d > 0 then (⟨#[]⟩ : ByteArray) else strOfNums (fixL d n) ++ out) := by
  intro d
  induction d with
  | zero =>
    intro k n i out h0 h1 n0 n1 ho hk
    obtain ⟨k, rfl⟩ : ∃ m, k = m + 1 := ⟨k - 1, by omega⟩
    simp only [spec_Fixed.l0]
    rw [if_neg (by omega)]
    have e : strOfNums (fixL 0 n) ++ out = out := bytesOf_inj (by rw [bytesOf_append, bytesOf_strOfNums (fixL_byt _ _)]; rfl)
    rw [e]
    simp only [Int.pow_zero, Int.ediv_one]
    split <;> rfl
  | succ d ih =>
    intro k n i out h0 h1 n0 n1 ho hk
    obtain ⟨k, rfl⟩ : ∃ m, k = m + 1 := ⟨k - 1, by omega⟩
    simp only [spec_Fixed.l0, Option.bind_some]
    rw [if_pos (by omega), size_strOfNums, if_pos (by simp; omega), tmod_nn n0, tdiv_nn n0, w64 (n := n / 256) (by omega) (by omega), w64 (n := i + 1) (by omega) (by omega)]
    rw [ih k (n / 256) (i + 1) _ (by omega) (by omega) (by omega) (by omega) (by rw [ByteArray.size_append, size_strOfNums, ho]; simp; omega) (by omega), div_pow_succ]
    have e : strOfNums (fixL d (n / 256)) ++ (strOfNums [n % 256 % 256] ++ out) = strOfNums (fixL (d + 1) n) ++ out := by
      rw [fixL, ← strOfNums_append, ByteArray.append_assoc, show n % 256 % 256 = n % 256 by omega]
    rw [e]

theorem spec_Fixed_f (n w : Int) (n1 : n ≤ 9223372036854775807) (k : Nat) (hk : 8 < k) : spec_Fixed.f k n w = some (strOfNums (fixM n w)) := by
  unfold spec_Fixed.f fixM
  rw [spec_l1In_run]; simp only [Option.bind_some, decide_eq_true_eq]
  obtain ⟨k, rfl⟩ : ∃ m, k = m + 1 := ⟨k - 1, by omega⟩
  by_cases h : 1 ≤ w ∧ w ≤ 7
  · rw [if_pos h]
    simp only [spec_Fixed.j0, decide_eq_true_eq]
    by_cases h2 : n < 0
    · rw [if_pos h2, if_neg (by omega)]; rfl
    · rw [if_neg h2, spec_Fixed_run w h.2 w.toNat k n 0 _ (by omega) (by omega) (by omega) (by omega) rfl (by omega)]
      have hp := pow256_pos w.toNat
      by_cases h3 : n < 256 ^ w.toNat
      · have hc : 1 ≤ w ∧ w ≤ 7 ∧ 0 ≤ n ∧ n < 256 ^ w.toNat := ⟨h.1, h.2, by omega, h3⟩
        rw [if_pos hc, Int.ediv_eq_zero_of_lt (by omega) h3, if_neg (by omega)]
        congr 1
        exact bytesOf_inj (by rw [bytesOf_append]; simp [bytesOf])
      · have hc : ¬ (1 ≤ w ∧ w ≤ 7 ∧ 0 ≤ n ∧ n < 256 ^ w.toNat) := fun hc => h3 hc.2.2.2
        have hd := div_ge_one hp (show 256 ^ w.toNat ≤ n by omega)
        rw [if_neg hc, if_pos (by omega)]; rfl
  · rw [if_neg h, if_neg (by omega)]
    simp only [spec_Fixed.j0]; rfl

theorem impl_Fixed_run (n : Int) : ∀ (d k : Nat) (xs : List Int), d ≤ 7 → xs.length + d < 100 → d < k →
    impl_Fixed.l0 k n xs ((d : Int) - 1) = some (strOfNums (xs ++ fixL d n)) := by
  intro d
  induction d with
  | zero =>
    intro k xs h7 hx hk
    obtain ⟨k, rfl⟩ : ∃ m, k = m + 1 := ⟨k - 1, by omega⟩
    simp only [impl_Fixed.l0]
    rw [if_neg (by omega)]; simp [fixL]
  | succ d ih =>
    intro k xs h7 hx hk
    obtain ⟨k, rfl⟩ : ∃ m, k = m + 1 := ⟨k - 1, by omega⟩
    simp only [impl_Fixed.l0]
    rw [show ((d + 1 : Nat) : Int) - 1 = (d : Int) by omega, if_pos (by omega), w64 (n := 8 * (d : Int)) (by omega) (by omega), if_pos (by omega), if_pos (by omega), w64 (n := (d : Int) - 1) (by omega) (by omega), shr8 n (by omega) (by omega), ih k _ (by omega) (by simp; omega) (by omega), fixL_cons]
    simp

theorem impl_Fixed_f (n w : Int) (k : Nat) (hk : 8 < k) : impl_Fixed.f k n w = some (strOfNums (fixM n w)) := by
  unfold impl_Fixed.f fixM
  rw [impl_from_run]; simp only [Option.bind_some, decide_eq_true_eq]
  obtain ⟨k, rfl⟩ : ∃ m, k = m + 1 := ⟨k - 1, by omega⟩
  by_cases h : 1 ≤ w ∧ w ≤ 7
  · rw [if_pos h]
    by_cases h2 : n < 0
    · rw [if_pos h2, if_neg (by omega)]; simp only [impl_Fixed.j0]; rfl
    · rw [if_neg h2, w64 (n := 8 * w) (by omega) (by omega), if_pos (by omega), shr8 n (by omega) (by omega)]
      have hp := pow256_pos w.toNat
      simp only [impl_Fixed.j0, bne_iff_ne, ne_eq]
      by_cases h3 : n < 256 ^ w.toNat
      · have hc : 1 ≤ w ∧ w ≤ 7 ∧ 0 ≤ n ∧ n < 256 ^ w.toNat := ⟨h.1, h.2, by omega, h3⟩
        rw [if_pos hc, Int.ediv_eq_zero_of_lt (by omega) h3, if_neg (by simp), w64 (n := w - 1) (by omega) (by omega)]
        have := impl_Fixed_run n w.toNat k [] (by omega) (by simp; omega) (by omega)
        rw [show ((w.toNat : Nat) : Int) - 1 = w - 1 by omega] at this
        rw [this]; simp
      · have hc : ¬ (1 ≤ w ∧ w ≤ 7 ∧ 0 ≤ n ∧ n < 256 ^ w.toNat) := fun hc => h3 hc.2.2.2
        have hd := div_ge_one hp (show 256 ^ w.toNat ≤ n by omega)
        rw [if_neg hc, if_pos (by omega)]; rfl
  · rw [if_neg h, if_neg (by omega)]
    simp only [impl_Fixed.j0]; rfl

/-! Crc -/
theorem spec_Crc_inner (s : ByteArray) (i : Int) : ∀ (d k : Nat) (j c : Int), j + d = 8 → 0 ≤ j → 0 ≤ c → c < 4294967296 →
    spec_Crc.l1 (k + d + 1) s c i j = spec_Crc.l0 k s (crcI d c) (wrap64 (i + 1)) := by
  intro d
  induction d with
  | zero =>
    intro k j c hj h0 c0 c1
    simp only [spec_Crc.l1]
    rw [if_neg (by omega)]; rfl
  | succ d ih =>
    intro k j c hj h0 c0 c1
    obtain ⟨q, hq⟩ : ∃ q, k + d + 1 = q := ⟨_, rfl⟩
    rw [show k + (d + 1) + 1 = q + 1 by omega]
    simp only [spec_Crc.l1]
    have hr := crc1_range c0 c1
    rw [if_pos (by omega), tmod_nn c0, tdiv_nn c0, w64 (n := c / 2) (by omega) (by omega), w64 (n := j + 1) (by omega) (by omega), crcI]
    by_cases h : c % 2 = 1
    · rw [if_pos h, bits_xor64 (by omega) (by omega) (by omega) (by omega)]
      have e : crc1 c = xr (c / 2) 2197175160 := by unfold crc1; rw [if_pos h]
      rw [← e, ← hq, ih k (j + 1) _ (by omega) (by omega) hr.1 hr.2]
    · rw [if_neg h]
      have e : crc1 c = c / 2 := by unfold crc1; rw [if_neg h]
      rw [← e, ← hq, ih k (j + 1) _ (by omega) (by omega) hr.1 hr.2]

theorem spec_Crc_run (s : ByteArray) (hs : s.size ≤ 140737488351232) : ∀ (d k : Nat) (i c : Int), 0 ≤ i → i + d = s.size → 0 ≤ c → c < 4294967296 →
    spec_Crc.l0 (k + 10 * d + 1) s c i = some (4294967295 - crcL ((bytesOf s).drop i.toNat) c) := by
  intro d
  induction d with
  | zero =>
    intro k i c h0 h1 c0 c1
    simp only [spec_Crc.l0]
    rw [if_neg (by omega), List.drop_of_length_le (by rw [bytesOf_length]; omega), w64 (by omega) (by omega)]; rfl
  | succ d ih =>
    intro k i c h0 h1 c0 c1
    obtain ⟨q, hq⟩ : ∃ q, (k + 10 * d + 1) + 8 + 1 = q := ⟨_, rfl⟩
    rw [show k + 10 * (d + 1) + 1 = q + 1 by omega]
    have hlt : i < (s.size : Int) := by omega
    obtain ⟨b0, b1⟩ := bt_range s i
    obtain ⟨r0, r1⟩ := xr_range (a := c) (b := bt s i) c1 (by omega)
    obtain ⟨q0, q1⟩ := crcI_range 8 r0 r1
    simp only [spec_Crc.l0]
    rw [if_pos hlt, if_pos h0, w64 (n := bt s i) (by omega) (by omega), bits_xor64 c0 c1 b0 (by omega), ← hq, spec_Crc_inner s i 8 _ 0 _ (by omega) (by omega) r0 r1, w64 (n := i + 1) (by omega) (by omega), ih k (i + 1) _ (by omega) (by omega) q0 q1, bt_drop h0 hlt, show (i + 1).toNat = i.toNat + 1 by omega]; rfl

theorem spec_Crc_f (s : ByteArray) (hs : s.size ≤ 140737488351232) (k : Nat) (hk : 10 * s.size < k) : spec_Crc.f k s = some (crcM (bytesOf s)) := by
  obtain ⟨q, rfl⟩ : ∃ m, k = m + 10 * s.size + 1 := ⟨k - 10 * s.size - 1, by omega⟩
  unfold spec_Crc.f
  exact spec_Crc_run s hs s.size q 0 _ (by omega) (by omega) (by omega) (by omega)

theorem impl_Crc_inner (s : ByteArray) (n i : Int) : ∀ (d k : Nat) (j c : Int), j + d = 8 → 0 ≤ j → 0 ≤ c → c < 4294967296 →
    impl_Crc.l1 (k + d + 1) s c n i j = impl_Crc.l0 k s (crcI d c) n (wrap64 (i + 1)) := by
  intro d
  induction d with
  | zero =>
    intro k j c hj h0 c0 c1
    simp only [impl_Crc.l1]
    rw [if_neg (by omega)]; rfl
  | succ d ih =>
    intro k j c hj h0 c0 c1
    obtain ⟨q, hq⟩ : ∃ q, k + d + 1 = q := ⟨_, rfl⟩
    rw [show k + (d + 1) + 1 = q + 1 by omega]
    simp only [impl_Crc.l1]
    have hr := crc1_range c0 c1
    rw [if_pos (by omega), bits_and1 c0 c1, w64 (n := j + 1) (by omega) (by omega), crcI]
    by_cases h : c % 2 = 1
    · rw [if_pos h, bits_xor32 (by omega) (by omega) (by omega) (by omega)]
      have e : crc1 c = xr (c / 2) 2197175160 := by unfold crc1; rw [if_pos h]
      rw [← e, ← hq, ih k (j + 1) _ (by omega) (by omega) hr.1 hr.2]
    · rw [if_neg h]
      have e : crc1 c = c / 2 := by unfold crc1; rw [if_neg h]
      rw [← e, ← hq, ih k (j + 1) _ (by omega) (by omega) hr.1 hr.2]

theorem impl_Crc_run (s : ByteArray) (hs : s.size ≤ 140737488351232) : ∀ (d k : Nat) (i c : Int), 0 ≤ i → i + d = s.size → 0 ≤ c → c < 4294967296 →
    impl_Crc.l0 (k + 10 * d + 1) s c (s.size : Int) i = some (4294967295 - crcL ((bytesOf s).drop i.toNat) c) := by
  intro d
  induction d with
  | zero =>
    intro k i c h0 h1 c0 c1
    simp only [impl_Crc.l0]
    rw [if_neg (by omega), List.drop_of_length_le (by rw [bytesOf_length]; omega), bits_xor32 (by omega) (by omega) c0 c1, xr_ones c0 c1, w64 (by omega) (by omega)]; rfl
  | succ d ih =>
    intro k i c h0 h1 c0 c1
    obtain ⟨q, hq⟩ : ∃ q, (k + 10 * d + 1) + 8 + 1 = q := ⟨_, rfl⟩
    rw [show k + 10 * (d + 1) + 1 = q + 1 by omega]
    have hlt : i < (s.size : Int) := by omega
    obtain ⟨b0, b1⟩ := bt_range s i
    obtain ⟨r0, r1⟩ := xr_range (a := c) (b := bt s i) c1 (by omega)
    obtain ⟨q0, q1⟩ := crcI_range 8 r0 r1
    simp only [impl_Crc.l0]
    rw [if_pos hlt, if_pos h0, if_pos hlt, show bt s i % 4294967296 = bt s i by omega, bits_xor32 c0 c1 b0 (by omega), ← hq, impl_Crc_inner s _ i 8 _ 0 _ (by omega) (by omega) r0 r1, w64 (n := i + 1) (by omega) (by omega), ih k (i + 1) _ (by omega) (by omega) q0 q1, bt_drop h0 hlt, show (i + 1).toNat = i.toNat + 1 by omega]; rfl

theorem impl_Crc_f (s : ByteArray) (hs : s.size ≤ 140737488351232) (k : Nat) (hk : 10 * s.size < k) : impl_Crc.f k s = some (crcM (bytesOf s)) := by
  obtain ⟨q, rfl⟩ : ∃ m, k = m + 10 * s.size + 1 := ⟨k - 10 * s.size - 1, by omega⟩
  unfold impl_Crc.f
  exact impl_Crc_run s hs s.size q 0 _ (by omega) (by omega) (by omega) (by omega)

/-! Frame -/
theorem spec_Frame_f (s : ByteArray) (hs : s.size ≤ 140737488351232) (k : Nat) (hk : 21000 < k) : spec_Frame.f k s = some (strOfNums (frameM (bytesOf s))) := by
  obtain ⟨k, rfl⟩ : ∃ m, k = m + 1 := ⟨k - 1, by omega⟩
  unfold spec_Frame.f frameM
  rw [bytesOf_length]
  by_cases h0 : (s.size : Int) = 0
  · rw [if_pos h0, if_neg (by omega)]; simp only [spec_Frame.j0]; rfl
  · rw [if_neg h0]
    simp only [spec_Frame.j0]
    by_cases h1 : (s.size : Int) > 2000
    · rw [if_pos (by simpa using h1), if_neg (by omega)]; rfl
    · have hf : fixM (s.size : Int) 4 = fixL 4 s.size := by unfold fixM; rw [if_pos]; · rfl
                                                            · refine ⟨by omega, by omega, by omega, ?_⟩; rw [show ((4 : Int).toNat) = 4 from rfl]; omega
      have hz : (strOfNums (fixL 4 (s.size : Int))).size = 4 := by rw [size_strOfNums, fixL_length]
      have hb : bytesOf (strOfNums (fixL 4 (s.size : Int)) ++ s) = fixL 4 s.size ++ bytesOf s := by rw [bytesOf_append, bytesOf_strOfNums (fixL_byt _ _)]
      obtain ⟨c0, c1⟩ := crcM_range (l := fixL 4 (s.size : Int) ++ bytesOf s) (byt_append.2 ⟨fixL_byt _ _, byt_bytesOf s⟩)
      have hf2 : fixM (crcM (fixL 4 (s.size : Int) ++ bytesOf s)) 4 = fixL 4 (crcM (fixL 4 s.size ++ bytesOf s)) := by
        unfold fixM; rw [if_pos]; · rfl
        · refine ⟨by omega, by omega, c0, ?_⟩; rw [show ((4 : Int).toNat) = 4 from rfl]; omega
      rw [if_neg (by simpa using h1), if_pos (by omega), spec_Fixed_f _ _ (by omega) _ (by omega), hf]
      simp only [Option.bind_some]
      rw [if_pos (by omega), spec_Crc_f _ (by rw [ByteArray.size_append]; omega) _ (by rw [ByteArray.size_append]; omega), hb]
      simp only [Option.bind_some]
      rw [spec_Fixed_f _ _ (by omega) _ (by omega), hf2]
      simp only [Option.bind_some]
      rw [if_pos (by simp only [ByteArray.size_append, hz, size_strOfNums, fixL_length]; omega), if_pos (by simp only [ByteArray.size_append, hz, size_strOfNums, fixL_length]; omega), ← strOfNums_append, ← strOfNums_append, strOfNums_bytesOf]


theorem impl_Frame_f (s : ByteArray) (hs : s.size ≤ 140737488351232) (k : Nat) (hk : 21000 < k) : impl_Frame.f k s = some (strOfNums (frameM (bytesOf s))) := by
  unfold impl_Frame.f frameM
  rw [bytesOf_length, impl_from_run]
  simp only [Option.bind_some, decide_eq_true_eq]
  by_cases h1 : 1 ≤ (s.size : Int) ∧ (s.size : Int) ≤ 2000
  · rw [if_pos h1, if_pos h1]
    · have hf : fixM (s.size : Int) 4 = fixL 4 s.size := by unfold fixM; rw [if_pos]; · rfl
                                                            · refine ⟨by omega, by omega, by omega, ?_⟩; rw [show ((4 : Int).toNat) = 4 from rfl]; omega
      have hz : (strOfNums (fixL 4 (s.size : Int))).size = 4 := by rw [size_strOfNums, fixL_length]
      have hb : bytesOf (strOfNums (fixL 4 (s.size : Int)) ++ s) = fixL 4 s.size ++ bytesOf s := by rw [bytesOf_append, bytesOf_strOfNums (fixL_byt _ _)]
      obtain ⟨c0, c1⟩ := crcM_range (l := fixL 4 (s.size : Int) ++ bytesOf s) (byt_append.2 ⟨fixL_byt _ _, byt_bytesOf s⟩)
      have hf2 : fixM (crcM (fixL 4 (s.size : Int) ++ bytesOf s)) 4 = fixL 4 (crcM (fixL 4 s.size ++ bytesOf s)) := by
        unfold fixM; rw [if_pos]; · rfl
        · refine ⟨by omega, by omega, c0, ?_⟩; rw [show ((4 : Int).toNat) = 4 from rfl]; omega
      rw [impl_Fixed_f _ _ _ (by omega), hf]
      simp only [Option.bind_some]
      rw [if_pos (by omega), impl_Crc_f _ (by rw [ByteArray.size_append]; omega) _ (by rw [ByteArray.size_append]; omega), hb]
      simp only [Option.bind_some]
      rw [impl_Fixed_f _ _ _ (by omega), hf2]
      simp only [Option.bind_some]
      rw [if_pos (by simp only [ByteArray.size_append, hz, size_strOfNums, fixL_length]; omega), if_pos (by simp only [ByteArray.size_append, hz, size_strOfNums, fixL_length]; omega), ← strOfNums_append, ← strOfNums_append, strOfNums_bytesOf]
  · rw [if_neg h1, if_neg h1]; rfl


/-! ReadFixed -/
def rdFixM (s : ByteArray) (w : Int) : Int × Bool := if 1 ≤ w ∧ w ≤ 7 ∧ w ≤ (s.size : Int) then (be ((bytesOf s).take w.toNat), true) else (0, false)

theorem be_step {s : ByteArray} {i : Int} (h0 : 0 ≤ i) (h1 : i < (s.size : Int)) (h7 : i < 7) :
    be ((bytesOf s).take (i.toNat + 1)) = be ((bytesOf s).take i.toNat) * 256 + bt s i ∧ 0 ≤ be ((bytesOf s).take i.toNat) ∧ be ((bytesOf s).take i.toNat) < 281474976710656 := by
  refine ⟨by rw [bt_take h0 h1, be_snoc], ?_⟩
  obtain ⟨a, b⟩ := be_bound ((bytesOf s).take i.toNat) (byt_take (byt_bytesOf s) _)
  refine ⟨a, Int.lt_of_lt_of_le b ?_⟩
  have : ((bytesOf s).take i.toNat).length ≤ 6 := by rw [List.length_take]; omega
  exact Int.le_trans (pow256_le this) (show (256 : Int) ^ 6 ≤ 281474976710656 by decide)

theorem spec_ReadFixed_run (s : ByteArray) (w : Int) (hw : w ≤ 7) (hs : w ≤ (s.size : Int)) : ∀ (d k : Nat) (i : Int), 0 ≤ i → i + d = w → d < k →
    spec_ReadFixed.l0 k s w (be ((bytesOf s).take i.toNat)) i = some (be ((bytesOf s).take w.toNat), true) := by
  intro d
  induction d with
  | zero =>
    intro k i h0 h1 hk
    obtain ⟨k, rfl⟩ : ∃ m, k = m + 1 := ⟨k - 1, by omega⟩
    simp only [spec_ReadFixed.l0]
    rw [if_neg (by omega), show i = w by omega]
  | succ d ih =>
    intro k i h0 h1 hk
    obtain ⟨k, rfl⟩ : ∃ m, k = m + 1 := ⟨k - 1, by omega⟩
    obtain ⟨e, b0, b1⟩ := be_step (s := s) h0 (by omega) (by omega)
    obtain ⟨c0, c1⟩ := bt_range s i
    simp only [spec_ReadFixed.l0]
    rw [if_pos (by omega), if_pos h0, if_pos (by omega), w64 (n := bt s i) (by omega) (by omega), w64 (n := _ * 256) (by omega) (by omega), w64 (n := _ + bt s i) (by omega) (by omega), w64 (n := i + 1) (by omega) (by omega), ← e]
    have := ih k (i + 1) (by omega) (by omega) (by omega)
    rwa [show (i + 1).toNat = i.toNat + 1 by omega] at this

theorem spec_ReadFixed_f (s : ByteArray) (w : Int) (k : Nat) (hk : 8 < k) : spec_ReadFixed.f k s w = some (rdFixM s w) := by
  unfold spec_ReadFixed.f rdFixM
  rw [spec_l1In_run]; simp only [Option.bind_some, decide_eq_true_eq]
  obtain ⟨k, rfl⟩ : ∃ m, k = m + 1 := ⟨k - 1, by omega⟩
  by_cases h : 1 ≤ w ∧ w ≤ 7
  · rw [if_pos h]
    simp only [spec_ReadFixed.j0, decide_eq_true_eq]
    by_cases h2 : (s.size : Int) < w
    · rw [if_pos h2, if_neg (by omega)]
    · rw [if_neg h2, if_pos (by omega)]
      have := spec_ReadFixed_run s w h.2 (by omega) w.toNat k 0 (by omega) (by omega) (by omega)
      exact this
  · rw [if_neg h, if_neg (by omega)]
    simp only [spec_ReadFixed.j0]; rfl

theorem impl_ReadFixed_run (s : ByteArray) (w : Int) (hw : w ≤ 7) (hs : w ≤ (s.size : Int)) : ∀ (d k : Nat) (i : Int), 0 ≤ i → i + d = w → d < k →
    impl_ReadFixed.l0 k s (be ((bytesOf s).take i.toNat)) w i = some (be ((bytesOf s).take w.toNat), true) := by
  intro d
  induction d with
  | zero =>
    intro k i h0 h1 hk
    obtain ⟨k, rfl⟩ : ∃ m, k = m + 1 := ⟨k - 1, by omega⟩
    simp only [impl_ReadFixed.l0]
    rw [if_neg (by omega), show i = w by omega]
  | succ d ih =>
    intro k i h0 h1 hk
    obtain ⟨k, rfl⟩ : ∃ m, k = m + 1 := ⟨k - 1, by omega⟩
    obtain ⟨e, b0, b1⟩ := be_step (s := s) h0 (by omega) (by omega)
    obtain ⟨c0, c1⟩ := bt_range s i
    simp only [impl_ReadFixed.l0]
    rw [if_pos (by omega), if_pos h0, if_pos (by omega), w64 (n := bt s i) (by omega) (by omega), w64 (n := _ * 256) (by omega) (by omega), or_low b0 (by omega) (by omega) (by omega), w64 (n := i + 1) (by omega) (by omega), ← e]
    have := ih k (i + 1) (by omega) (by omega) (by omega)
    rwa [show (i + 1).toNat = i.toNat + 1 by omega] at this

theorem impl_ReadFixed_f (s : ByteArray) (w : Int) (k : Nat) (hk : 8 < k) : impl_ReadFixed.f k s w = some (rdFixM s w) := by
  unfold impl_ReadFixed.f rdFixM
  rw [impl_from_run]; simp only [Option.bind_some, decide_eq_true_eq]
  obtain ⟨k, rfl⟩ : ∃ m, k = m + 1 := ⟨k - 1, by omega⟩
  by_cases h : 1 ≤ w ∧ w ≤ 7
  · rw [if_pos h]
    simp only [impl_ReadFixed.j0, decide_eq_true_eq]
    by_cases h2 : (s.size : Int) < w
    · rw [if_pos h2, if_neg (by omega)]
    · rw [if_neg h2, if_pos (by omega)]
      have := impl_ReadFixed_run s w h.2 (by omega) w.toNat k 0 (by omega) (by omega) (by omega)
      exact this
  · rw [if_neg h, if_neg (by omega)]
    simp only [impl_ReadFixed.j0]; rfl

/-! Unframe -/
theorem bytes_same {a b : ByteArray} {l : List Int} (hl : Byt l) (ha : a = strOfNums l) : a.toList = b.toList ↔ l = bytesOf b := by
  rw [toList_eq_iff, ha]
  constructor
  · intro h; rw [← h, bytesOf_strOfNums hl]
  · intro h; rw [h, strOfNums_bytesOf]

theorem spec_Unframe_f (s : ByteArray) (hs : s.size ≤ 140737488351232) (k : Nat) (hk : 21001 < k) : spec_Unframe.f k s = some (unfM s) := by
  obtain ⟨k, rfl⟩ : ∃ m, k = m + 1 := ⟨k - 1, by omega⟩
  unfold spec_Unframe.f unfM
  rw [spec_ReadFixed_f _ _ _ (by omega)]
  simp only [Option.bind_some]
  unfold rdFixM
  by_cases h4 : (s.size : Int) < 4
  · rw [if_neg (show ¬ (1 ≤ (4 : Int) ∧ (4 : Int) ≤ 7 ∧ (4 : Int) ≤ (s.size : Int)) by omega), if_neg (by decide), if_pos h4]
  · rw [if_pos (show 1 ≤ (4 : Int) ∧ (4 : Int) ≤ 7 ∧ (4 : Int) ≤ (s.size : Int) by omega), if_pos rfl, if_neg h4]
    simp only
    rw [show (4 : Int).toNat = 4 from rfl]
    obtain ⟨b0, b1⟩ := be_bound ((bytesOf s).take 4) (byt_take (byt_bytesOf s) 4)
    have b2 : ((bytesOf s).take 4).length = 4 := by rw [List.length_take, bytesOf_length]; omega
    rw [b2] at b1
    generalize hn : be ((bytesOf s).take 4) = n at *
    simp only [spec_Unframe.j0]
    by_cases h0 : n = 0
    · rw [if_pos h0, if_pos trivial, if_neg (show ¬ (1 ≤ n ∧ n ≤ 2000) by omega)]
    · rw [if_neg h0]
      by_cases h1 : n > 2000
      · rw [if_pos (by simpa using h1), if_neg (show ¬ (1 ≤ n ∧ n ≤ 2000) by omega)]
      · rw [if_neg (by simpa using h1), if_pos (show 1 ≤ n ∧ n ≤ 2000 by omega), w64 (n := 8 + n) (by omega) (by omega), show 8 + n = n + 8 by omega]
        by_cases h2 : (s.size : Int) < n + 8
        · rw [if_pos h2, if_pos h2]
        · have he : bytesOf (s.extract 8 (n + 8).toNat) = ((bytesOf s).take (n + 8).toNat).drop 8 := bytesOf_extract _ _ _
          have hz : (s.extract 8 (n + 8).toNat).size ≤ 2000 := by rw [size_bytes, he, List.length_drop, List.length_take]; omega
          rw [if_neg h2, if_neg h2, if_pos (show 8 ≤ n + 8 by omega), if_pos (show n + 8 ≤ (s.size : Int) by omega), spec_Frame_f _ (by omega) _ (by omega)]
          simp only [Option.bind_some]
          have hq := bytes_same (b := s.extract 0 (n + 8).toNat) (frameM_byt (byt_bytesOf (s.extract 8 (n + 8).toNat))) rfl
          rw [bytesOf_extract s 0, List.drop_zero] at hq
          rw [if_pos (show 0 ≤ n + 8 by omega)]
          rw [he] at hq ⊢
          simp only [hq]
          split <;> rfl

theorem bytes_sameI {a b : ByteArray} {l : List Int} (hl : Byt l) (ha : a = strOfNums l) : a.toList = b.toList ↔ l = bytesOf b := by
  rw [toList_eq_iff, ha]
  constructor
  · intro h; rw [← h, bytesOf_strOfNums hl]
  · intro h; rw [h, strOfNums_bytesOf]

theorem impl_Unframe_f (s : ByteArray) (hs : s.size ≤ 140737488351232) (k : Nat) (hk : 21001 < k) : impl_Unframe.f k s = some (unfM s) := by
  unfold impl_Unframe.f unfM
  rw [impl_ReadFixed_f _ _ _ (by omega)]
  simp only [Option.bind_some]
  unfold rdFixM
  by_cases h4 : (s.size : Int) < 4
  · rw [if_neg (show ¬ (1 ≤ (4 : Int) ∧ (4 : Int) ≤ 7 ∧ (4 : Int) ≤ (s.size : Int)) by omega), if_neg (by decide), if_pos h4]
  · rw [if_pos (show 1 ≤ (4 : Int) ∧ (4 : Int) ≤ 7 ∧ (4 : Int) ≤ (s.size : Int) by omega), if_pos rfl, if_neg h4]
    simp only
    rw [show (4 : Int).toNat = 4 from rfl]
    obtain ⟨b0, b1⟩ := be_bound ((bytesOf s).take 4) (byt_take (byt_bytesOf s) 4)
    have b2 : ((bytesOf s).take 4).length = 4 := by rw [List.length_take, bytesOf_length]; omega
    rw [b2] at b1
    generalize hn : be ((bytesOf s).take 4) = n at *
    rw [impl_from_run]
    simp only [Option.bind_some, decide_eq_true_eq]
    by_cases h0 : 1 ≤ n ∧ n ≤ 2000
    · rw [if_pos h0, if_pos h0, w64 (n := n + 8) (by omega) (by omega)]
      · by_cases h2 : (s.size : Int) < n + 8
        · rw [if_pos h2, if_pos h2]
        · have he : bytesOf (s.extract 8 (n + 8).toNat) = ((bytesOf s).take (n + 8).toNat).drop 8 := bytesOf_extract _ _ _
          have hz : (s.extract 8 (n + 8).toNat).size ≤ 2000 := by rw [size_bytes, he, List.length_drop, List.length_take]; omega
          rw [if_neg h2, if_neg h2, if_pos (show 8 ≤ n + 8 by omega), if_pos (show n + 8 ≤ (s.size : Int) by omega), impl_Frame_f _ (by omega) _ (by omega)]
          simp only [Option.bind_some]
          have hq := bytes_sameI (b := s.extract 0 (n + 8).toNat) (frameM_byt (byt_bytesOf (s.extract 8 (n + 8).toNat))) rfl
          rw [bytesOf_extract s 0, List.drop_zero] at hq
          rw [if_pos (show 0 ≤ n + 8 by omega)]
          rw [he] at hq ⊢
          simp only [hq]
          split <;> rfl
    · rw [if_neg h0, if_neg h0]


/-! SnapOk -/
theorem spec_SnapOk_run (i t : Int) (d : ByteArray) : spec_SnapOk.f i t d = some (snapOkM i t d.size) := by
  unfold spec_SnapOk.f snapOkM
  simp only [spec_l1In_run, Option.bind_some, decide_eq_true_eq, toList_nil]
  repeat' split
  all_goals (congr 1; rw [Bool.eq_iff_iff]; simp only [decide_eq_true_eq, Bool.and_eq_true, beq_iff_eq, true_iff, Bool.false_eq_true, false_iff, iff_true, iff_false]; omega)

theorem impl_isTerm_run (a : Int) : impl_isTerm.f a = some (decide (1 ≤ a ∧ a ≤ 100000)) := by
  unfold impl_isTerm.f; rw [impl_from_run]; rfl
theorem impl_SnapOk_run (i t : Int) (d : ByteArray) : impl_SnapOk.f i t d = some (snapOkM i t d.size) := by
  unfold impl_SnapOk.f snapOkM
  simp only [impl_from_run, impl_isTerm_run, Option.bind_some, decide_eq_true_eq, toList_nil]
  by_cases h : i = 0 ∧ t = 0 ∧ d.size = 0
  · obtain ⟨rfl, rfl, h⟩ := h
    rw [h]; rfl
  · rw [if_neg (by simpa using h)]
    repeat' split
    all_goals (congr 1; rw [Bool.eq_iff_iff]; simp only [decide_eq_true_eq, Bool.and_eq_true, beq_iff_eq, true_iff, Bool.false_eq_true, false_iff, iff_true, iff_false]; omega)

theorem fixM4 {n : Int} (h0 : 0 ≤ n) (h1 : n < 4294967296) : fixM n 4 = fixL 4 n := by
  unfold fixM; rw [if_pos]
  · rfl
  · refine ⟨by omega, by omega, h0, ?_⟩; rw [show ((4 : Int).toNat) = 4 from rfl]; omega

/-! ShowSnap -/
theorem spec_ShowSnap_j (i t : Int) (d : ByteArray) (h : snapOkM i t d.size = true) (hi : i ≠ 0) (k : Nat) (hk : 310000 < k) : spec_ShowSnap.j0 k false i t d = some (strOfNums (frameM (snapHead i t d) ++ bytesOf d)) := by
  obtain ⟨k, rfl⟩ : ∃ m, k = m + 1 := ⟨k - 1, by omega⟩
  obtain ⟨i0, i1, t0, t1, n1, _⟩ := snapOk_small h
  obtain ⟨c0, c1⟩ := crcM_range (byt_bytesOf d)
  have hz := snapHead_length i t d
  have hl := frameM_length (b := snapHead i t d) (by omega) (by omega)
  simp only [spec_ShowSnap.j0]
  rw [if_neg (by decide), spec_Fixed_f _ _ (by omega) _ (by omega), spec_Fixed_f _ _ (by omega) _ (by omega), fixM4 i0 (by omega), fixM4 t0 (by omega)]
  simp only [Option.bind_some, ByteArray.size_append, size_strOfNums, fixL_length]
  rw [if_pos (by omega), spec_Fixed_f _ _ (by omega) _ (by omega), fixM4 (by omega) (by omega)]
  simp only [Option.bind_some, ByteArray.size_append, size_strOfNums, fixL_length]
  rw [if_pos (by omega), spec_Crc_f _ (by omega) _ (by omega)]
  simp only [Option.bind_some]
  rw [spec_Fixed_f _ _ (by omega) _ (by omega), fixM4 c0 (by omega)]
  simp only [Option.bind_some, ByteArray.size_append, size_strOfNums, fixL_length]
  rw [if_pos (by omega), snapHead_eq, spec_Frame_f _ (by rw [size_strOfNums]; omega) _ (by omega), bytesOf_strOfNums (snapHead_byt _ _ _)]
  simp only [Option.bind_some, size_strOfNums]
  rw [if_pos (by omega), ← strOfNums_append, strOfNums_bytesOf]
theorem spec_ShowSnap_f (i t : Int) (d : ByteArray) (k : Nat) (hk : 310001 < k) : spec_ShowSnap.f k i t d = some (strOfNums (showSnapM i t d)) := by
  unfold spec_ShowSnap.f showSnapM
  rw [spec_SnapOk_run]
  simp only [Option.bind_some]
  have hn : spec_ShowSnap.j0 k true i t d = some (strOfNums []) := by
    obtain ⟨k, rfl⟩ : ∃ m, k = m + 1 := ⟨k - 1, by omega⟩
    simp only [spec_ShowSnap.j0]; rfl
  by_cases h : snapOkM i t d.size = true
  · rw [if_pos h]
    by_cases hi : i = 0
    · rw [if_neg (fun g => g.2 hi), hi, show ((0 : Int) == 0) = true from rfl, ← hi, hn]
    · rw [if_pos ⟨h, hi⟩, show (i == 0) = false by simpa using hi, spec_ShowSnap_j i t d h hi k (by omega)]
  · rw [if_neg h, if_neg (fun g => h g.1), hn]


theorem impl_ShowSnap_j (i t : Int) (d : ByteArray) (h : snapOkM i t d.size = true) (hi : i ≠ 0) (k : Nat) (hk : 310000 < k) : impl_ShowSnap.j0 k false i t d = some (strOfNums (frameM (snapHead i t d) ++ bytesOf d)) := by
  obtain ⟨k, rfl⟩ : ∃ m, k = m + 1 := ⟨k - 1, by omega⟩
  obtain ⟨i0, i1, t0, t1, n1, _⟩ := snapOk_small h
  obtain ⟨c0, c1⟩ := crcM_range (byt_bytesOf d)
  have hz := snapHead_length i t d
  have hl := frameM_length (b := snapHead i t d) (by omega) (by omega)
  simp only [impl_ShowSnap.j0]
  rw [if_neg (by decide), impl_Fixed_f _ _ _ (by omega), impl_Fixed_f _ _ _ (by omega), fixM4 i0 (by omega), fixM4 t0 (by omega)]
  simp only [Option.bind_some, ByteArray.size_append, size_strOfNums, fixL_length]
  rw [if_pos (by omega), impl_Fixed_f _ _ _ (by omega), fixM4 (by omega) (by omega)]
  simp only [Option.bind_some, ByteArray.size_append, size_strOfNums, fixL_length]
  rw [if_pos (by omega), impl_Crc_f _ (by omega) _ (by omega)]
  simp only [Option.bind_some]
  rw [impl_Fixed_f _ _ _ (by omega), fixM4 c0 (by omega)]
  simp only [Option.bind_some, ByteArray.size_append, size_strOfNums, fixL_length]
  rw [if_pos (by omega), snapHead_eq, impl_Frame_f _ (by rw [size_strOfNums]; omega) _ (by omega), bytesOf_strOfNums (snapHead_byt _ _ _)]
  simp only [Option.bind_some, size_strOfNums]
  rw [if_pos (by omega), ← strOfNums_append, strOfNums_bytesOf]
theorem impl_ShowSnap_f (i t : Int) (d : ByteArray) (k : Nat) (hk : 310001 < k) : impl_ShowSnap.f k i t d = some (strOfNums (showSnapM i t d)) := by
  unfold impl_ShowSnap.f showSnapM
  rw [impl_SnapOk_run]
  simp only [Option.bind_some]
  have hn : impl_ShowSnap.j0 k true i t d = some (strOfNums []) := by
    obtain ⟨k, rfl⟩ : ∃ m, k = m + 1 := ⟨k - 1, by omega⟩
    simp only [impl_ShowSnap.j0]; rfl
  by_cases h : snapOkM i t d.size = true
  · rw [if_pos h]
    by_cases hi : i = 0
    · obtain ⟨_, h2, h3⟩ := (snapOk_small h).2.2.2.2.2.1 hi
      have e : (i == 0 && (t == 0 && (d.toList == ([] : List UInt8)))) = true := by rw [toList_nil, hi, h2, h3]; rfl
      rw [if_neg (fun g => g.2 hi), e, hn]
    · have e : (i == 0 && (t == 0 && (d.toList == ([] : List UInt8)))) = false := by rw [show (i == 0) = false by simpa using hi]; rfl
      rw [if_pos ⟨h, hi⟩, e, impl_ShowSnap_j i t d h hi k (by omega)]
  · rw [if_neg h, if_neg (fun g => h g.1), hn]


/-! ReadSnap -/
abbrev snI (s : ByteArray) : Int := (rdFixM (unfM s).1 4).1
abbrev snT (s : ByteArray) : Int := (rdFixM ((unfM s).1.extract 4 (unfM s).1.size) 4).1
abbrev snD (s : ByteArray) : ByteArray := s.extract (unfM s).2.1.toNat s.size
def rdSnapM (s : ByteArray) : Int × Int × ByteArray × Bool :=
  if (unfM s).2.2 = 0 ∧ (unfM s).1.size = 16 ∧ strOfNums (showSnapM (snI s) (snT s) (snD s)) = s then (snI s, snT s, snD s, true) else (0, 0, ⟨#[]⟩, false)

theorem unfM_16 {s : ByteArray} (h : (unfM s).1.size = 16) : (unfM s).2.2 = 0 := by
  by_cases h0 : (unfM s).2.2 = 0
  · exact h0
  · rw [(unfM_err h0).1] at h; exact absurd h (by decide)
theorem showSnapM_big {i t : Int} {d : ByteArray} (h : 30000 < d.size) : showSnapM i t d = [] := by
  unfold showSnapM; rw [if_neg]
  rintro ⟨g, hi⟩
  have := snapOk_small g; omega
theorem showSnapM_zero {t : Int} {d : ByteArray} : showSnapM 0 t d = [] := by
  unfold showSnapM; rw [if_neg (fun g => g.2 rfl)]

theorem impl_ReadSnap_f (s : ByteArray) (hs : s.size ≤ 140737488351232) (k : Nat) (hk : 310003 < k) : impl_ReadSnap.f k s = some (rdSnapM s) := by
  unfold impl_ReadSnap.f rdSnapM
  rw [impl_Unframe_f s hs _ (by omega)]
  simp only [Option.bind_some]
  obtain ⟨k, rfl⟩ : ∃ m, k = m + 1 := ⟨k - 1, by omega⟩
  simp only [impl_ReadSnap.j0]
  by_cases h0 : (unfM s).2.2 = 0
  · rw [if_pos h0]
    by_cases h1 : (unfM s).1.size = 16
    · obtain ⟨a0, a1, a2⟩ := unfM_ok h0
      rw [if_neg (by simp [h1]), if_pos (show 0 ≤ (unfM s).2.1 by omega), if_pos a2, impl_ReadFixed_f _ _ _ (by omega)]
      simp only [Option.bind_some]
      rw [if_pos (by omega), impl_ReadFixed_f _ _ _ (by omega)]
      simp only [Option.bind_some]
      by_cases h2 : ((rdFixM (unfM s).1 4).1 == 0 && ((rdFixM ((unfM s).1.extract 4 (unfM s).1.size) 4).1 == 0 && (((s.extract (unfM s).2.1.toNat s.size).toList) == ([] : List UInt8)))) = true
      · rw [if_pos h2]
        simp only [Bool.and_eq_true, beq_iff_eq] at h2
        rw [if_neg]
        rintro ⟨_, _, g⟩
        have hz : snI s = 0 := h2.1
        rw [hz, showSnapM_zero] at g
        have hz : s.size = 0 := by rw [← g]; rfl
        omega
      · rw [if_neg h2, impl_ShowSnap_f _ _ _ _ (by omega)]
        simp only [Option.bind_some]
        by_cases h3 : strOfNums (showSnapM (snI s) (snT s) (snD s)) = s
        · rw [if_pos (toList_eq_iff.2 h3), if_pos ⟨h0, h1, h3⟩]
        · rw [if_neg (fun g => h3 (toList_eq_iff.1 g)), if_neg (fun g => h3 g.2.2)]
    · rw [if_pos (by simp; omega), if_neg (fun g => h1 g.2.1)]
  · rw [if_neg h0, if_pos trivial, if_neg (fun g => h0 g.1)]

theorem spec_ReadSnap_f (s : ByteArray) (hs : s.size ≤ 140737488351232) (k : Nat) (hk : 310003 < k) : spec_ReadSnap.f k s = some (rdSnapM s) := by
  unfold spec_ReadSnap.f rdSnapM
  rw [spec_Unframe_f s hs _ (by omega)]
  simp only [Option.bind_some]
  rw [spec_ReadFixed_f _ _ _ (by omega)]
  simp only [Option.bind_some]
  obtain ⟨k, rfl⟩ : ∃ m, k = m + 1 := ⟨k - 1, by omega⟩
  simp only [spec_ReadSnap.j0]
  by_cases h1 : (unfM s).1.size = 16
  · have h0 := unfM_16 h1
    obtain ⟨a0, a1, a2⟩ := unfM_ok h0
    have he : (snD s).size = s.size - (unfM s).2.1.toNat := extract_size _ _ (by omega)
    rw [if_pos (by omega), w64 (n := (s.size : Int) - (unfM s).2.1) (by omega) (by omega)]
    by_cases h2 : (s.size : Int) - (unfM s).2.1 > 30000
    · rw [if_pos (by simpa using h2), if_neg]
      rintro ⟨_, _, g⟩
      rw [showSnapM_big (by omega)] at g
      have hz : s.size = 0 := by rw [← g]; rfl
      omega
    · rw [if_neg (by simpa using h2), if_pos (by omega), spec_ReadFixed_f _ _ _ (by omega)]
      simp only [Option.bind_some]
      rw [if_pos (by omega), if_pos a2, spec_ShowSnap_f _ _ _ _ (by omega)]
      simp only [Option.bind_some]
      by_cases h3 : strOfNums (showSnapM (snI s) (snT s) (snD s)) = s
      · rw [if_pos (toList_eq_iff.2 h3), if_pos ⟨h0, h1, h3⟩]
      · rw [if_neg (fun g => h3 (toList_eq_iff.1 g)), if_neg (fun g => h3 g.2.2)]
  · rw [if_neg (by omega), if_pos trivial, if_neg (fun g => h1 g.2.1)]

theorem FnExactReadSnap : laws_FnExactReadSnap.Pure := by
  intro s hs
  refine ⟨310004, ?_⟩
  unfold laws_FnExactReadSnap.f
  split
  · rfl
  · rw [spec_ReadSnap_f s hs _ (by omega), impl_ReadSnap_f s hs _ (by omega)]
    simp [laws_eqSnap.f]

end Go.Proofs.Ythpdodnkcobbaaa.Pure
