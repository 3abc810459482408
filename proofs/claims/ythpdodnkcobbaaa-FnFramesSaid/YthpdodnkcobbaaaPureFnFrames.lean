/- Frames one behind the other, cut anywhere. -/
import Derived.Test.YthpdodnkcobbaaaPFnFramesx1
import Derived.Test.YthpdodnkcobbaaaPFnFramesx2
import Derived.Test.YthpdodnkcobbaaaPFnFramesx3
import Derived.Test.YthpdodnkcobbaaaPFnFramesx4
import Derived.Test.YthpdodnkcobbaaaBase
import Derived.Test.YthpdodnkcobbaaaNum
import Derived.Test.YthpdodnkcobbaaaNumCrc
import Derived.Test.YthpdodnkcobbaaaNumFrame
namespace Go.Proofs.Ythpdodnkcobbaaa.Pure
open Go.RowKit Go.Proofs.Ythpdodnkcobbaaa.PFnFrames Go.Proofs.YthpdodnkcobbaaaW.PrintWords Go.Proofs.YthpdodnkcobbaaaW.PrintLast Go.Proofs.YthpdodnkcobbaaaW.PrintMore Go.Proofs.Ythpdodnkcobbaaa.Base
set_option linter.unusedVariables false
set_option linter.unusedSimpArgs false

theorem impl_from_run (a b c : Int) : impl_from.f a b c = some (decide (b ≤ a ∧ a ≤ c)) := by
  unfold impl_from.f
  by_cases h : a ≥ b
  · rw [if_pos h]; congr 1; simp [show b ≤ a from h]
  · rw [if_neg h]; congr 1; simp; omega

/-! fixed widths: what both sides use -/
def fixM (n w : Int) : List Int := if 1 ≤ w ∧ w ≤ 7 ∧ 0 ≤ n ∧ n < 256 ^ w.toNat then fixL w.toNat n else []
def rdFixM (s : ByteArray) (w : Int) : Int × Bool := if 1 ≤ w ∧ w ≤ 7 ∧ w ≤ (s.size : Int) then (be ((bytesOf s).take w.toNat), true) else (0, false)

theorem be_step {s : ByteArray} {i : Int} (h0 : 0 ≤ i) (h1 : i < (s.size : Int)) (h7 : i < 7) :
    be ((bytesOf s).take (i.toNat + 1)) = be ((bytesOf s).take i.toNat) * 256 + bt s i ∧ 0 ≤ be ((bytesOf s).take i.toNat) ∧ be ((bytesOf s).take i.toNat) < 281474976710656 := by
  refine ⟨by rw [bt_take h0 h1, be_snoc], ?_⟩
  obtain ⟨a, b⟩ := be_bound ((bytesOf s).take i.toNat) (byt_take (byt_bytesOf s) _)
  refine ⟨a, Int.lt_of_lt_of_le b ?_⟩
  have : ((bytesOf s).take i.toNat).length ≤ 6 := by rw [List.length_take]; omega
  exact Int.le_trans (pow256_le this) (show (256 : Int) ^ 6 ≤ 281474976710656 by decide)


theorem impl_Fixed_run (n : Int) : ∀ (d k : Nat) (xs : List Int), d ≤ 7 → xs.length + d < 100 → d < k →
    impl_Fixed.l0 k n xs ((d : Int) - 1) = some (strOfNums (xs ++ fixL d n)) := by
  intro d
  induction d with
  | zero =>
    intro k xs h7 hx hk
    obtain ⟨k, rfl⟩ : ∃ m, k = m + 1 := ⟨k - 1, by omega⟩
    simp only [impl_Fixed.l0]
    rw [if_neg (by omega)]; simp [fixL]
  | succ d ih =>
    intro k xs h7 hx hk
    obtain ⟨k, rfl⟩ : ∃ m, k = m + 1 := ⟨k - 1, by omega⟩
    simp only [impl_Fixed.l0]
    rw [show ((d + 1 : Nat) : Int) - 1 = (d : Int) by omega, if_pos (by omega), w64 (n := 8 * (d : Int)) (by omega) (by omega), if_pos (by omega), if_pos (by omega), w64 (n := (d : Int) - 1) (by omega) (by omega), shr8 n (by omega) (by omega), ih k _ (by omega) (by simp; omega) (by omega), fixL_cons]
    simp

theorem impl_Fixed_f (n w : Int) (k : Nat) (hk : 8 < k) : impl_Fixed.f k n w = some (strOfNums (fixM n w)) := by
  unfold impl_Fixed.f fixM
  rw [impl_from_run]; simp only [Option.bind_some, decide_eq_true_eq]
  obtain ⟨k, rfl⟩ : ∃ m, k = m + 1 := ⟨k - 1, by omega⟩
  by_cases h : 1 ≤ w ∧ w ≤ 7
  · rw [if_pos h]
    by_cases h2 : n < 0
    · rw [if_pos h2, if_neg (by omega)]; simp only [impl_Fixed.j0]; rfl
    · rw [if_neg h2, w64 (n := 8 * w) (by omega) (by omega), if_pos (by omega), shr8 n (by omega) (by omega)]
      have hp := pow256_pos w.toNat
      simp only [impl_Fixed.j0, bne_iff_ne, ne_eq]
      by_cases h3 : n < 256 ^ w.toNat
      · have hc : 1 ≤ w ∧ w ≤ 7 ∧ 0 ≤ n ∧ n < 256 ^ w.toNat := ⟨h.1, h.2, by omega, h3⟩
        rw [if_pos hc, Int.ediv_eq_zero_of_lt (by omega) h3, if_neg (by simp), w64 (n := w - 1) (by omega) (by omega)]
        have := impl_Fixed_run n w.toNat k [] (by omega) (by simp; omega) (by omega)
        rw [show ((w.toNat : Nat) : Int) - 1 = w - 1 by omega] at this
        rw [this]; simp
      · have hc : ¬ (1 ≤ w ∧ w ≤ 7 ∧ 0 ≤ n ∧ n < 256 ^ w.toNat) := fun hc => h3 hc.2.2.2
        have hd := div_ge_one hp (show 256 ^ w.toNat ≤ n by omega)
        rw [if_neg hc, if_pos (by omega)]; rfl
  · rw [if_neg h, if_neg (by omega)]
    simp only [impl_Fixed.j0]; rfl

theorem impl_Crc_inner (s : ByteArray) (n i : Int) : ∀ (d k : Nat) (j c : Int), j + d = 8 → 0 ≤ j → 0 ≤ c → c < 4294967296 →
    impl_Crc.l1 (k + d + 1) s c n i j = impl_Crc.l0 k s (crcI d c) n (wrap64 (i + 1)) := by
  intro d
  induction d with
  | zero =>
    intro k j c hj h0 c0 c1
    simp only [impl_Crc.l1]
    rw [if_neg (by omega)]; rfl
  | succ d ih =>
    intro k j c hj h0 c0 c1
    obtain ⟨q, hq⟩ : ∃ q, k + d + 1 = q := ⟨_, rfl⟩
    rw [show k + (d + 1) + 1 = q + 1 by omega]
    simp only [impl_Crc.l1]
    have hr := crc1_range c0 c1
    rw [if_pos (by omega), bits_and1 c0 c1, w64 (n := j + 1) (by omega) (by omega), crcI]
    by_cases h : c % 2 = 1
    · rw [if_pos h, bits_xor32 (by omega) (by omega) (by omega) (by omega)]
      have e : crc1 c = xr (c / 2) 2197175160 := by unfold crc1; rw [if_pos h]
      rw [← e, ← hq, ih k (j + 1) _ (by omega) (by omega) hr.1 hr.2]
    · rw [if_neg h]
      have e : crc1 c = c / 2 := by unfold crc1; rw [if_neg h]
      rw [← e, ← hq, ih k (j + 1) _ (by omega) (by omega) hr.1 hr.2]

theorem impl_Crc_run (s : ByteArray) (hs : s.size ≤ 140737488351232) : ∀ (d k : Nat) (i c : Int), 0 ≤ i → i + d = s.size → 0 ≤ c → c < 4294967296 →
    impl_Crc.l0 (k + 10 * d + 1) s c (s.size : Int) i = some (4294967295 - crcL ((bytesOf s).drop i.toNat) c) := by
  intro d
  induction d with
  | zero =>
    intro k i c h0 h1 c0 c1
    simp only [impl_Crc.l0]
    rw [if_neg (by omega), List.drop_of_length_le (by rw [bytesOf_length]; omega), bits_xor32 (by omega) (by omega) c0 c1, xr_ones c0 c1, w64 (by omega) (by omega)]; rfl
  | succ d ih =>
    intro k i c h0 h1 c0 c1
    obtain ⟨q, hq⟩ : ∃ q, (k + 10 * d + 1) + 8 + 1 = q := ⟨_, rfl⟩
    rw [show k + 10 * (d + 1) + 1 = q + 1 by omega]
    have hlt : i < (s.size : Int) := by omega
    obtain ⟨b0, b1⟩ := bt_range s i
    obtain ⟨r0, r1⟩ := xr_range (a := c) (b := bt s i) c1 (by omega)
    obtain ⟨q0, q1⟩ := crcI_range 8 r0 r1
    simp only [impl_Crc.l0]
    rw [if_pos hlt, if_pos h0, if_pos hlt, show bt s i % 4294967296 = bt s i by omega, bits_xor32 c0 c1 b0 (by omega), ← hq, impl_Crc_inner s _ i 8 _ 0 _ (by omega) (by omega) r0 r1, w64 (n := i + 1) (by omega) (by omega), ih k (i + 1) _ (by omega) (by omega) q0 q1, bt_drop h0 hlt, show (i + 1).toNat = i.toNat + 1 by omega]; rfl

theorem impl_Crc_f (s : ByteArray) (hs : s.size ≤ 140737488351232) (k : Nat) (hk : 10 * s.size < k) : impl_Crc.f k s = some (crcM (bytesOf s)) := by
  obtain ⟨q, rfl⟩ : ∃ m, k = m + 10 * s.size + 1 := ⟨k - 10 * s.size - 1, by omega⟩
  unfold impl_Crc.f
  exact impl_Crc_run s hs s.size q 0 _ (by omega) (by omega) (by omega) (by omega)


theorem impl_Frame_f (s : ByteArray) (hs : s.size ≤ 140737488351232) (k : Nat) (hk : 21000 < k) : impl_Frame.f k s = some (strOfNums (frameM (bytesOf s))) := by
  unfold impl_Frame.f frameM
  rw [bytesOf_length, impl_from_run]
  simp only [Option.bind_some, decide_eq_true_eq]
  by_cases h1 : 1 ≤ (s.size : Int) ∧ (s.size : Int) ≤ 2000
  · rw [if_pos h1, if_pos h1]
    · have hf : fixM (s.size : Int) 4 = fixL 4 s.size := by unfold fixM; rw [if_pos]; · rfl
                                                            · refine ⟨by omega, by omega, by omega, ?_⟩; rw [show ((4 : Int).toNat) = 4 from rfl]; omega
      have hz : (strOfNums (fixL 4 (s.size : Int))).size = 4 := by rw [size_strOfNums, fixL_length]
      have hb : bytesOf (strOfNums (fixL 4 (s.size : Int)) ++ s) = fixL 4 s.size ++ bytesOf s := by rw [bytesOf_append, bytesOf_strOfNums (fixL_byt _ _)]
      obtain ⟨c0, c1⟩ := crcM_range (l := fixL 4 (s.size : Int) ++ bytesOf s) (byt_append.2 ⟨fixL_byt _ _, byt_bytesOf s⟩)
      have hf2 : fixM (crcM (fixL 4 (s.size : Int) ++ bytesOf s)) 4 = fixL 4 (crcM (fixL 4 s.size ++ bytesOf s)) := by
        unfold fixM; rw [if_pos]; · rfl
        · refine ⟨by omega, by omega, c0, ?_⟩; rw [show ((4 : Int).toNat) = 4 from rfl]; omega
      rw [impl_Fixed_f _ _ _ (by omega), hf]
      simp only [Option.bind_some]
      rw [if_pos (by omega), impl_Crc_f _ (by rw [ByteArray.size_append]; omega) _ (by rw [ByteArray.size_append]; omega), hb]
      simp only [Option.bind_some]
      rw [impl_Fixed_f _ _ _ (by omega), hf2]
      simp only [Option.bind_some]
      rw [if_pos (by simp only [ByteArray.size_append, hz, size_strOfNums, fixL_length]; omega), if_pos (by simp only [ByteArray.size_append, hz, size_strOfNums, fixL_length]; omega), ← strOfNums_append, ← strOfNums_append, strOfNums_bytesOf]
  · rw [if_neg h1, if_neg h1]; rfl


theorem impl_ReadFixed_run (s : ByteArray) (w : Int) (hw : w ≤ 7) (hs : w ≤ (s.size : Int)) : ∀ (d k : Nat) (i : Int), 0 ≤ i → i + d = w → d < k →
    impl_ReadFixed.l0 k s (be ((bytesOf s).take i.toNat)) w i = some (be ((bytesOf s).take w.toNat), true) := by
  intro d
  induction d with
  | zero =>
    intro k i h0 h1 hk
    obtain ⟨k, rfl⟩ : ∃ m, k = m + 1 := ⟨k - 1, by omega⟩
    simp only [impl_ReadFixed.l0]
    rw [if_neg (by omega), show i = w by omega]
  | succ d ih =>
    intro k i h0 h1 hk
    obtain ⟨k, rfl⟩ : ∃ m, k = m + 1 := ⟨k - 1, by omega⟩
    obtain ⟨e, b0, b1⟩ := be_step (s := s) h0 (by omega) (by omega)
    obtain ⟨c0, c1⟩ := bt_range s i
    simp only [impl_ReadFixed.l0]
    rw [if_pos (by omega), if_pos h0, if_pos (by omega), w64 (n := bt s i) (by omega) (by omega), w64 (n := _ * 256) (by omega) (by omega), or_low b0 (by omega) (by omega) (by omega), w64 (n := i + 1) (by omega) (by omega), ← e]
    have := ih k (i + 1) (by omega) (by omega) (by omega)
    rwa [show (i + 1).toNat = i.toNat + 1 by omega] at this

theorem impl_ReadFixed_f (s : ByteArray) (w : Int) (k : Nat) (hk : 8 < k) : impl_ReadFixed.f k s w = some (rdFixM s w) := by
  unfold impl_ReadFixed.f rdFixM
  rw [impl_from_run]; simp only [Option.bind_some, decide_eq_true_eq]
  obtain ⟨k, rfl⟩ : ∃ m, k = m + 1 := ⟨k - 1, by omega⟩
  by_cases h : 1 ≤ w ∧ w ≤ 7
  · rw [if_pos h]
    simp only [impl_ReadFixed.j0, decide_eq_true_eq]
    by_cases h2 : (s.size : Int) < w
    · rw [if_pos h2, if_neg (by omega)]
    · rw [if_neg h2, if_pos (by omega)]
      have := impl_ReadFixed_run s w h.2 (by omega) w.toNat k 0 (by omega) (by omega) (by omega)
      exact this
  · rw [if_neg h, if_neg (by omega)]
    simp only [impl_ReadFixed.j0]; rfl

theorem bytes_sameI {a b : ByteArray} {l : List Int} (hl : Byt l) (ha : a = strOfNums l) : a.toList = b.toList ↔ l = bytesOf b := by
  rw [toList_eq_iff, ha]
  constructor
  · intro h; rw [← h, bytesOf_strOfNums hl]
  · intro h; rw [h, strOfNums_bytesOf]

theorem impl_Unframe_f (s : ByteArray) (hs : s.size ≤ 140737488351232) (k : Nat) (hk : 21001 < k) : impl_Unframe.f k s = some (unfM s) := by
  unfold impl_Unframe.f unfM
  rw [impl_ReadFixed_f _ _ _ (by omega)]
  simp only [Option.bind_some]
  unfold rdFixM
  by_cases h4 : (s.size : Int) < 4
  · rw [if_neg (show ¬ (1 ≤ (4 : Int) ∧ (4 : Int) ≤ 7 ∧ (4 : Int) ≤ (s.size : Int)) by omega), if_neg (by decide), if_pos h4]
  · rw [if_pos (show 1 ≤ (4 : Int) ∧ (4 : Int) ≤ 7 ∧ (4 : Int) ≤ (s.size : Int) by omega), if_pos rfl, if_neg h4]
    simp only
    rw [show (4 : Int).toNat = 4 from rfl]
    obtain ⟨b0, b1⟩ := be_bound ((bytesOf s).take 4) (byt_take (byt_bytesOf s) 4)
    have b2 : ((bytesOf s).take 4).length = 4 := by rw [List.length_take, bytesOf_length]; omega
    rw [b2] at b1
    generalize hn : be ((bytesOf s).take 4) = n at *
    rw [impl_from_run]
    simp only [Option.bind_some, decide_eq_true_eq]
    by_cases h0 : 1 ≤ n ∧ n ≤ 2000
    · rw [if_pos h0, if_pos h0, w64 (n := n + 8) (by omega) (by omega)]
      · by_cases h2 : (s.size : Int) < n + 8
        · rw [if_pos h2, if_pos h2]
        · have he : bytesOf (s.extract 8 (n + 8).toNat) = ((bytesOf s).take (n + 8).toNat).drop 8 := bytesOf_extract _ _ _
          have hz : (s.extract 8 (n + 8).toNat).size ≤ 2000 := by rw [size_bytes, he, List.length_drop, List.length_take]; omega
          rw [if_neg h2, if_neg h2, if_pos (show 8 ≤ n + 8 by omega), if_pos (show n + 8 ≤ (s.size : Int) by omega), impl_Frame_f _ (by omega) _ (by omega)]
          simp only [Option.bind_some]
          have hq := bytes_sameI (b := s.extract 0 (n + 8).toNat) (frameM_byt (byt_bytesOf (s.extract 8 (n + 8).toNat))) rfl
          rw [bytesOf_extract s 0, List.drop_zero] at hq
          rw [if_pos (show 0 ≤ n + 8 by omega)]
          rw [he] at hq ⊢
          simp only [hq]
          split <;> rfl
    · rw [if_neg h0, if_neg h0]


/-! Frames -/
theorem frs_more : ∀ (f : Nat) (s : ByteArray) (a : Int), 0 ≤ a → a ≤ (s.size : Int) → (s.size : Int) - a < f → ∀ g, f ≤ g → frs g s a = frs f s a := by
  intro f
  induction f with
  | zero => intro s a h0 h1 h2; omega
  | succ f ih =>
    intro s a h0 h1 h2 g hg
    obtain ⟨g, rfl⟩ : ∃ m, g = m + 1 := ⟨g - 1, by omega⟩
    simp only [frs]
    by_cases hc : (unfM (s.extract a.toNat s.size)).2.2 = 0
    · obtain ⟨n0, n1, n2⟩ := unfM_ok hc
      rw [extract_size s a.toNat (by omega)] at n2
      rw [if_pos hc, if_pos hc, ih s _ (by omega) (by omega) (by omega) g (by omega)]
    · rw [if_neg hc, if_neg hc]

theorem frs_length : ∀ (f : Nat) (s : ByteArray) (a : Int), (frs f s a).1.length ≤ f := by
  intro f
  induction f with
  | zero => intro s a; simp [frs]
  | succ f ih =>
    intro s a
    simp only [frs]
    split
    · have := ih s (a + (unfM (s.extract a.toNat s.size)).2.1); simp; exact this
    · simp

theorem impl_Frames_run (s : ByteArray) (hs : s.size ≤ 140737488351232) : ∀ (f k : Nat) (a : Int) (xs : List ByteArray), 0 ≤ a → a ≤ (s.size : Int) → (s.size : Int) - a < f → xs.length + f < 8796093022208 → 22000 + f < k →
    impl_Frames.l0 k s xs a = some (xs ++ (frs f s a).1, (frs f s a).2) := by
  intro f
  induction f with
  | zero => intro k a xs h0 h1 h2; omega
  | succ f ih =>
    intro k a xs h0 h1 h2 hx hk
    obtain ⟨k, rfl⟩ : ∃ m, k = m + 1 := ⟨k - 1, by omega⟩
    have hz := extract_size s a.toNat (by omega)
    simp only [impl_Frames.l0, frs]
    rw [if_pos h0, if_pos h1, impl_Unframe_f _ (by omega) _ (by omega)]
    simp only [Option.bind_some]
    by_cases hc : (unfM (s.extract a.toNat s.size)).2.2 = 0
    · obtain ⟨n0, n1, n2⟩ := unfM_ok hc
      rw [hz] at n2
      rw [if_pos hc, if_pos hc, if_pos (by omega), w64 (by omega) (by omega), ih k _ _ (by omega) (by omega) (by omega) (by simp; omega) (by omega)]
      simp
    · rw [if_neg hc, if_neg hc]; simp
theorem impl_Frames_f (s : ByteArray) (hs : s.size ≤ 1048576) (k : Nat) (hk : 1100000 < k) : impl_Frames.f k s = some (frs (s.size + 1) s 0) := by
  unfold impl_Frames.f
  rw [impl_Frames_run s (by omega) (s.size + 1) k 0 [] (by omega) (by omega) (by omega) (by simp; omega) (by omega)]; simp

/-! what is drawn -/
theorem and_low (x : Int) : 0 ≤ Go.bits .and .i64 x 255 ∧ Go.bits .and .i64 x 255 < 256 := by
  have e3 : Go.bits .and .i64 x 255 = IntKind.i64.wrap ((BitVec.ofInt 64 x &&& BitVec.ofInt 64 255).toNat : Int) := rfl
  have h : (BitVec.ofInt 64 x &&& BitVec.ofInt 64 255).toNat ≤ 255 := by
    rw [BitVec.toNat_and]
    exact Nat.le_trans Nat.and_le_right (by decide)
  rw [e3]
  generalize (BitVec.ofInt 64 x &&& BitVec.ofInt 64 255).toNat = m at h
  rw [wrapi (by omega) (by omega)]
  omega
theorem l1Byte_ok (l : List Int) (p s : Int) (hl : l.length ≤ 140737488355328) (h0 : 0 ≤ p) (h1 : p ≤ l.length) : ∃ b p' s', spec_l1Byte.f l p s = some (b, p', s') ∧ (0 ≤ b ∧ b < 256) ∧ 0 ≤ p' ∧ p' ≤ l.length := by
  unfold spec_l1Byte.f
  by_cases h : p < (l.length : Int)
  · rw [if_pos h, if_pos h0]
    refine ⟨_, _, _, rfl, and_low _, ?_⟩
    rw [w64 (n := p + 1) (by omega) (by omega)]; omega
  · rw [if_neg h]
    exact ⟨_, _, _, rfl, and_low _, h0, h1⟩
theorem tmod_range {a n : Int} (h0 : 0 ≤ a) (hn : 0 < n) : 0 ≤ Int.tmod a n ∧ Int.tmod a n < n := by
  rw [tmod_nn h0]; exact ⟨Int.emod_nonneg _ (by omega), Int.emod_lt_of_pos _ hn⟩
theorem l1Below_ok (l : List Int) (p s n : Int) (hl : l.length ≤ 140737488355328) (h0 : 0 ≤ p) (h1 : p ≤ l.length) : ∃ v p' s', spec_l1Below.f l p s n = some (v, p', s') ∧ 0 ≤ v ∧ (0 < n → v < n) ∧ 0 ≤ p' ∧ p' ≤ l.length := by
  unfold spec_l1Below.f
  by_cases hn : n ≤ 0
  · rw [if_pos hn]; exact ⟨_, _, _, rfl, by omega, by omega, h0, h1⟩
  · rw [if_neg hn]
    obtain ⟨b, p1, s1, e1, ⟨b0, b1⟩, q0, q1⟩ := l1Byte_ok l p s hl h0 h1
    rw [e1]
    simp only [Option.bind_some]
    by_cases hn2 : n ≤ 256
    · rw [if_pos hn2, if_neg (by omega)]
      have := tmod_range (a := b) (n := n) b0 (by omega)
      exact ⟨_, _, _, rfl, this.1, fun _ => this.2, q0, q1⟩
    · rw [if_neg hn2]
      obtain ⟨c, p2, s2, e2, ⟨c0, c1⟩, q2, q3⟩ := l1Byte_ok l p1 s1 hl q0 q1
      rw [e2]
      simp only [Option.bind_some]
      obtain ⟨d, p3, s3, e3, ⟨d0, d1⟩, q4, q5⟩ := l1Byte_ok l p2 s2 hl q2 q3
      rw [e3]
      simp only [Option.bind_some]
      obtain ⟨f, p4, s4, e4, ⟨f0, f1⟩, q6, q7⟩ := l1Byte_ok l p3 s3 hl q4 q5
      rw [e4]
      simp only [Option.bind_some]
      rw [if_neg (by omega), w64 (n := b * 16777216) (by omega) (by omega), w64 (n := c * 65536) (by omega) (by omega), w64 (n := d * 256) (by omega) (by omega), w64 (n := b * 16777216 + c * 65536) (by omega) (by omega), w64 (n := b * 16777216 + c * 65536 + d * 256) (by omega) (by omega), w64 (n := b * 16777216 + c * 65536 + d * 256 + f) (by omega) (by omega)]
      have := tmod_range (a := b * 16777216 + c * 65536 + d * 256 + f) (n := n) (by omega) (by omega)
      exact ⟨_, _, _, rfl, this.1, fun _ => this.2, q6, q7⟩
theorem l1Text_run : ∀ (d k : Nat) (acc : List Int) (m c : Int) (l : List Int) (p s : Int), c = d → acc.length + d ≤ 1000000 → l.length ≤ 140737488355328 → 0 ≤ p → p ≤ l.length → d < k →
    ∃ t p' s', spec_l1Text.l0 k acc m c l p s = some (t, p', s') ∧ t.size = acc.length + d ∧ 0 ≤ p' ∧ p' ≤ l.length := by
  intro d
  induction d with
  | zero =>
    intro k acc m c l p s hc ha hl h0 h1 hk
    obtain ⟨q, rfl⟩ : ∃ m, k = m + 1 := ⟨k - 1, by omega⟩
    simp only [spec_l1Text.l0]
    rw [if_neg (by omega)]
    exact ⟨_, _, _, rfl, by rw [size_strOfNums]; omega, h0, h1⟩
  | succ d ih =>
    intro k acc m c l p s hc ha hl h0 h1 hk
    obtain ⟨q, rfl⟩ : ∃ m, k = m + 1 := ⟨k - 1, by omega⟩
    obtain ⟨b, p1, s1, e1, _, q0, q1⟩ := l1Byte_ok l p s hl h0 h1
    have hc2 : wrap64 (c - 1) = (d : Int) := by rw [w64 (n := c - 1) (by omega) (by omega)]; omega
    have key : ∀ x, ∃ t p' s', spec_l1Text.l0 q (acc ++ [x]) m (wrap64 (c - 1)) l p1 s1 = some (t, p', s') ∧ t.size = acc.length + (d + 1) ∧ 0 ≤ p' ∧ p' ≤ l.length := by
      intro x
      obtain ⟨t, p', s', e, hs, g0, g1⟩ := ih q (acc ++ [x]) m (wrap64 (c - 1)) l p1 s1 hc2 (by simp; omega) hl q0 q1 (by omega)
      exact ⟨t, p', s', e, by rw [hs]; simp; omega, g0, g1⟩
    simp only [spec_l1Text.l0]
    rw [if_pos (by omega), e1]
    simp only [Option.bind_some]
    by_cases h1m : m = 1
    · rw [if_pos h1m, if_neg (by omega), if_pos (by omega)]; exact key _
    · rw [if_neg h1m]
      by_cases h2m : m = 2
      · rw [if_pos h2m, if_pos (by omega)]; exact key _
      · rw [if_neg h2m, if_pos (by omega)]; exact key _
theorem l1Text_ok (k : Nat) (l : List Int) (p s n : Int) (hl : l.length ≤ 140737488355328) (h0 : 0 ≤ p) (h1 : p ≤ l.length) (n0 : 0 ≤ n) (n1 : n ≤ 100000) (hk : n < k) : ∃ t p' s', spec_l1Text.f k l p s n = some (t, p', s') ∧ (t.size : Int) ≤ n ∧ 0 ≤ p' ∧ p' ≤ l.length := by
  unfold spec_l1Text.f
  obtain ⟨v, p1, s1, e1, _, _, q0, q1⟩ := l1Below_ok l p s 4 hl h0 h1
  rw [e1]
  simp only [Option.bind_some]
  obtain ⟨c, p2, s2, e2, c0, c1, q2, q3⟩ := l1Below_ok l p1 s1 (wrap64 (n + 1)) hl q0 q1
  rw [e2]
  simp only [Option.bind_some]
  have hw := w64 (n := n + 1) (by omega) (by omega)
  rw [hw] at c1
  have c2 := c1 (by omega)
  obtain ⟨t, p', s', e, hs, g⟩ := l1Text_run c.toNat k [] v c l p2 s2 (by omega) (by simp; omega) hl q2 q3 (by omega)
  refine ⟨t, p', s', e, ?_, g⟩
  rw [hs]; simp; omega
theorem l1New_run (l : List Int) (hl : l.length ≤ 140737488355328) : ∀ (d k : Nat) (x3 x4 : Int), 0 ≤ x4 → x4 ≤ 4000 → x4 + d = 4001 → d < k → ∃ s, spec_l1New.l0 k l x3 x4 = some (l, 0, s) := by
  intro d
  induction d with
  | zero => intro k x3 x4 h0 h1 h2; omega
  | succ d ih =>
    intro k x3 x4 h0 h1 h2 hk
    obtain ⟨q, rfl⟩ : ∃ m, k = m + 1 := ⟨k - 1, by omega⟩
    simp only [spec_l1New.l0]
    by_cases a : x4 < (l.length : Int)
    · rw [if_pos a]
      by_cases b : x4 < 4000
      · rw [if_pos b, if_pos h0, w64 (n := x4 + 1) (by omega) (by omega)]
        exact ih q _ _ (by omega) (by omega) (by omega) (by omega)
      · rw [if_neg b]; exact ⟨_, rfl⟩
    · rw [if_neg a]; exact ⟨_, rfl⟩
theorem l1New_ok (l : List Int) (hl : l.length ≤ 140737488355328) (k : Nat) (hk : 4001 < k) : ∃ s, spec_l1New.f k l = some (l, 0, s) := by
  unfold spec_l1New.f
  exact l1New_run l hl 4001 k _ 0 (by omega) (by omega) (by omega) hk

theorem drawHex_ok (l : List Int) (hl : l.length ≤ 140737488355328) (k : Nat) (hk : 4101 < k) : ∃ t, spec_DrawHex.f k l = some t ∧ t.size ≤ 40 := by
  unfold spec_DrawHex.f
  obtain ⟨s, e⟩ := l1New_ok l hl k (by omega)
  rw [e]
  simp only [Option.bind_some]
  obtain ⟨t, p, s2, e2, h, _⟩ := l1Text_ok k l 0 s 40 hl (by omega) (by omega) (by omega) (by omega) (by omega)
  rw [e2]
  exact ⟨t, rfl, by omega⟩

/-! what a law takes of its code -/
theorem rd_u8 (l : List Int) (h : ∀ x ∈ l, (Lit.int .u8 x).wf = true) (i : Int) : 0 ≤ rd l i ∧ rd l i ≤ 255 := by
  unfold rd
  rw [List.getD_eq_getElem?_getD]
  cases e : l[i.toNat]? with
  | none => simp
  | some x =>
    have hx := h x (List.mem_of_getElem? e)
    have h2 : IntKind.u8.min = 0 := rfl
    have h3 : IntKind.u8.max = 255 := rfl
    simp [Lit.wf] at hx
    simp only [Option.getD_some]
    omega
theorem laws_at_ok (l : List Int) (h : ∀ x ∈ l, (Lit.int .u8 x).wf = true) (hl : l.length ≤ 1048576) (i : Int) (h0 : 0 ≤ i) (h1 : i ≤ 1000000) : ∃ v, laws_at.f l i = some v ∧ 0 ≤ v ∧ v < 256 := by
  unfold laws_at.f
  by_cases a : i < (l.length : Int)
  · have := rd_u8 l h i
    rw [if_pos a, if_pos h0, w64 (n := rd l i) (by omega) (by omega)]
    exact ⟨_, rfl, by omega, by omega⟩
  · rw [if_neg a, w64 (n := i * 37) (by omega) (by omega), w64 (n := (l.length : Int) * 11) (by omega) (by omega), w64 (n := i * 37 + (l.length : Int) * 11) (by omega) (by omega)]
    have := tmod_range (a := i * 37 + (l.length : Int) * 11) (n := 256) (by omega) (by omega)
    exact ⟨_, rfl, this.1, this.2⟩
theorem laws_fresh_run (l : List Int) (x1 : Int) : ∀ (d k : Nat) (acc : List Int) (x6 : Int), 0 ≤ x6 → x6 ≤ 600 → x6 + d = 601 → acc.length ≤ x6 + 1 → d < k → ∃ r, laws_fresh.l0 k l x1 acc x6 = some r ∧ r.length ≤ 601 := by
  intro d
  induction d with
  | zero => intro k acc x6 h0 h1 h2; omega
  | succ d ih =>
    intro k acc x6 h0 h1 h2 ha hk
    obtain ⟨q, rfl⟩ : ∃ m, k = m + 1 := ⟨k - 1, by omega⟩
    simp only [laws_fresh.l0]
    by_cases a : x6 < (l.length : Int)
    · rw [if_pos a]
      by_cases b : x6 < 600
      · rw [if_pos b, if_pos h0, if_pos (by omega), w64 (n := x6 + 1) (by omega) (by omega)]
        exact ih q _ _ (by omega) (by omega) (by omega) (by simp; omega) (by omega)
      · rw [if_neg b]; exact ⟨_, rfl, by omega⟩
    · rw [if_neg a]; exact ⟨_, rfl, by omega⟩
theorem laws_fresh_ok (l : List Int) (x1 : Int) (k : Nat) (hk : 601 < k) : ∃ r, laws_fresh.f k l x1 = some r ∧ r.length ≤ 601 := by
  unfold laws_fresh.f
  exact laws_fresh_run l x1 601 k _ 0 (by omega) (by omega) (by omega) (by simp) hk

/-! frames one behind the other -/
def catF : List ByteArray → List Int
  | [] => []
  | b :: r => frameM (bytesOf b) ++ catF r
def endsF : Int → List ByteArray → List Int
  | a, [] => [a]
  | a, b :: r => a :: endsF (a + b.size + 8) r
def cntW : Int → List ByteArray → Int → Nat
  | _, [], _ => 0
  | a, b :: r, k => if a + b.size + 8 ≤ k then cntW (a + b.size + 8) r k + 1 else 0
def endW : Int → List ByteArray → Int → Int
  | a, [], _ => a
  | a, b :: r, k => if a + b.size + 8 ≤ k then endW (a + b.size + 8) r k else a
theorem frame_parts {b : ByteArray} (h1 : 1 ≤ b.size) (h2 : b.size ≤ 2000) : ∃ c, frameM (bytesOf b) = fixL 4 (b.size : Int) ++ (c ++ bytesOf b) ∧ c.length = 4 := by
  unfold frameM
  rw [bytesOf_length, if_pos (by omega)]
  exact ⟨_, by rw [List.append_assoc], fixL_length _ _⟩
theorem frame_length {b : ByteArray} (h1 : 1 ≤ b.size) (h2 : b.size ≤ 2000) : (frameM (bytesOf b)).length = b.size + 8 := by
  rw [frameM_length (by rw [bytesOf_length]; exact h1) (by rw [bytesOf_length]; exact h2), bytesOf_length]
theorem be_head {b u : ByteArray} (h1 : 1 ≤ b.size) (h2 : b.size ≤ 2000) {R : List Int} (hu : bytesOf u = (frameM (bytesOf b) ++ R).take u.size) (h4 : 4 ≤ u.size) : be ((bytesOf u).take 4) = (b.size : Int) := by
  obtain ⟨c, e, hc⟩ := frame_parts h1 h2
  rw [hu, List.take_take, show min 4 u.size = 4 by omega, e, List.append_assoc, List.take_left' (fixL_length _ _)]
  exact be_fixL 4 _ (by omega) (by omega)
theorem unfM_whole {b u : ByteArray} (h1 : 1 ≤ b.size) (h2 : b.size ≤ 2000) {R : List Int} (hu : bytesOf u = (frameM (bytesOf b) ++ R).take u.size) (h : b.size + 8 ≤ u.size) : unfM u = (b, (b.size : Int) + 8, 0) := by
  have hbe := be_head h1 h2 hu (by omega)
  obtain ⟨c, e, hc⟩ := frame_parts h1 h2
  have hF := frame_length h1 h2
  have ht : (bytesOf u).take ((b.size : Int) + 8).toNat = frameM (bytesOf b) := by
    rw [hu, List.take_take, show min ((b.size : Int) + 8).toNat u.size = b.size + 8 by omega, List.take_left' hF]
  have hd : (frameM (bytesOf b)).drop 8 = bytesOf b := by
    rw [e, ← List.append_assoc, List.drop_left']
    rw [List.length_append, fixL_length, hc]
  unfold unfM
  rw [if_neg (by omega)]
  simp only [hbe, ht, hd]
  rw [if_pos (by omega), if_neg (by omega), if_pos trivial]
  have : u.extract 8 ((b.size : Int) + 8).toNat = b := bytesOf_inj (by rw [bytesOf_extract, ht, hd])
  rw [this]
theorem unfM_part {b u : ByteArray} (h1 : 1 ≤ b.size) (h2 : b.size ≤ 2000) {R : List Int} (hu : bytesOf u = (frameM (bytesOf b) ++ R).take u.size) (h : ¬ b.size + 8 ≤ u.size) : ¬ (unfM u).2.2 = 0 := by
  unfold unfM
  by_cases h4 : (u.size : Int) < 4
  · rw [if_pos h4]; simp
  · have hbe := be_head h1 h2 hu (by omega)
    rw [if_neg h4]
    simp only [hbe]
    rw [if_pos (by omega), if_pos (by omega)]; simp
theorem frs_prefix : ∀ (bs : List ByteArray) (a : Int) (f : Nat) (t : ByteArray), (∀ b ∈ bs, 1 ≤ b.size ∧ b.size ≤ 2000) → 0 ≤ a → a ≤ (t.size : Int) → (bytesOf t).drop a.toNat = (catF bs).take (t.size - a.toNat) → (t.size : Int) - a < f →
    frs f t a = (bs.take (cntW a bs t.size), endW a bs t.size) := by
  intro bs
  induction bs with
  | nil =>
    intro a f t _ h0 h1 hd hf
    obtain ⟨f, rfl⟩ : ∃ m, f = m + 1 := ⟨f - 1, by omega⟩
    have hl := congrArg List.length hd
    simp only [catF, List.take_nil, List.length_nil, List.length_drop, bytesOf_length] at hl
    have hz := extract_size t a.toNat (by omega)
    simp only [frs]
    rw [if_neg (by rw [unfM_end (by omega)]; decide)]; rfl
  | cons b r ih =>
    intro a f t hb h0 h1 hd hf
    obtain ⟨f, rfl⟩ : ∃ m, f = m + 1 := ⟨f - 1, by omega⟩
    obtain ⟨b1, b2⟩ := hb b (List.mem_cons_self)
    have hz := extract_size t a.toNat (by omega)
    have hu : bytesOf (t.extract a.toNat t.size) = (frameM (bytesOf b) ++ catF r).take (t.extract a.toNat t.size).size := by
      rw [bytesOf_extract, List.take_of_length_le (by rw [bytesOf_length]; omega), hd, hz]; rfl
    simp only [frs, cntW, endW]
    by_cases h : a + b.size + 8 ≤ (t.size : Int)
    · rw [unfM_whole b1 b2 hu (by omega), if_pos h, if_pos h]
      simp only []
      rw [if_pos trivial]
      have hd2 : (bytesOf t).drop (a + b.size + 8).toNat = (catF r).take (t.size - (a + b.size + 8).toNat) := by
        rw [show (a + (b.size : Int) + 8).toNat = a.toNat + (b.size + 8) by omega, ← List.drop_drop, hd, List.drop_take, catF, List.drop_left' (frame_length b1 b2)]
        congr 1; omega
      rw [show a + ((b.size : Int) + 8) = a + b.size + 8 by omega, ih (a + b.size + 8) f t (fun x hx => hb x (List.mem_cons_of_mem _ hx)) (by omega) (by omega) hd2 (by omega)]
      rfl
    · rw [if_neg (unfM_part b1 b2 hu (by omega)), if_neg h, if_neg h]; rfl
theorem endsF_head : ∀ (r : List ByteArray) (a : Int), ∃ t, endsF a r = a :: t
  | [], a => ⟨[], rfl⟩
  | b :: r, a => ⟨_, rfl⟩
theorem endsF_length : ∀ (r : List ByteArray) (a : Int), (endsF a r).length = r.length + 1
  | [], a => rfl
  | b :: r, a => by simp [endsF, endsF_length r]
theorem endsF_snoc : ∀ (r : List ByteArray) (a : Int) (b : ByteArray), (∀ b ∈ r, 1 ≤ b.size ∧ b.size ≤ 2000) → endsF a (r ++ [b]) = endsF a r ++ [a + (catF r).length + b.size + 8]
  | [], a, b, _ => by simp [endsF, catF]
  | c :: r, a, b, h => by
    have hc := h c (List.mem_cons_self)
    rw [List.cons_append, endsF, endsF_snoc r _ b (fun x hx => h x (List.mem_cons_of_mem _ hx)), endsF, catF, List.length_append, frame_length hc.1 hc.2, List.cons_append]
    congr 3; omega
theorem catF_snoc : ∀ (r : List ByteArray) (b : ByteArray), catF (r ++ [b]) = catF r ++ frameM (bytesOf b)
  | [], b => by simp [catF]
  | c :: r, b => by rw [List.cons_append, catF, catF_snoc r b, catF, List.append_assoc]
theorem catF_byt : ∀ (r : List ByteArray), Byt (catF r)
  | [] => byt_nil
  | c :: r => byt_append.2 ⟨frameM_byt (byt_bytesOf c), catF_byt r⟩
theorem rd_at' (a b : List Int) (x i : Int) (h : i = a.length) : rd (a ++ x :: b) i = x := by
  subst h; simp [rd, List.getD]
theorem rd_at2' (a b : List Int) (p x i : Int) (h : i = a.length + 1) : rd (a ++ p :: x :: b) i = x := by
  rw [List.append_cons]; exact rd_at' _ _ _ _ (by rw [List.length_append]; simp only [List.length_singleton]; omega)
theorem l1_run (K : Nat) (x3 l : List ByteArray) (kk n : Int) : ∀ (r : List ByteArray) (pre : List Int) (a : Int) (k : Nat), pre.length + r.length ≤ 1000 → r.length + 1 + K ≤ k →
    ∃ q, K ≤ q ∧ laws_FnFrames.l1 k x3 (pre ++ endsF a r) kk l n (pre.length : Int) = laws_FnFrames.j2 q x3 (pre ++ endsF a r) l n ((pre.length + cntW a r kk : Nat) : Int) := by
  intro r
  induction r with
  | nil =>
    intro pre a k h0 hk
    obtain ⟨q, rfl⟩ : ∃ m, k = m + 1 := ⟨k - 1, by omega⟩
    refine ⟨q, by simp only [List.length_nil] at hk; omega, ?_⟩
    simp only [laws_FnFrames.l1, cntW, Nat.add_zero]
    rw [w64 (n := (pre.length : Int) + 1) (by omega) (by omega), if_neg (by simp [endsF])]
  | cons b r ih =>
    intro pre a k h0 hk
    simp only [List.length_cons] at h0 hk
    obtain ⟨q, rfl⟩ : ∃ m, k = m + 1 := ⟨k - 1, by omega⟩
    obtain ⟨t, ht⟩ := endsF_head r (a + b.size + 8)
    have he : pre ++ endsF a (b :: r) = pre ++ a :: (a + b.size + 8) :: t := by rw [endsF, ht]
    have hlen : ((pre ++ endsF a (b :: r)).length : Int) = pre.length + r.length + 2 := by rw [List.length_append, endsF_length, List.length_cons]; omega
    have hrd : rd (pre ++ endsF a (b :: r)) ((pre.length : Int) + 1) = a + b.size + 8 := by rw [he]; exact rd_at2' _ _ _ _ _ rfl
    simp only [laws_FnFrames.l1, cntW]
    rw [w64 (n := (pre.length : Int) + 1) (by omega) (by omega), hlen, if_pos (by omega), if_pos (by omega), hrd]
    by_cases h : a + b.size + 8 ≤ kk
    · obtain ⟨q2, hq, e⟩ := ih (pre ++ [a]) (a + b.size + 8) q (by simp; omega) (by omega)
      rw [if_pos h, if_pos h]
      refine ⟨q2, hq, ?_⟩
      rw [List.append_assoc, List.singleton_append, show (((pre ++ [a]).length : Nat) : Int) = (pre.length : Int) + 1 by simp] at e
      rw [endsF, e, List.length_append, List.length_singleton, show pre.length + 1 + cntW (a + b.size + 8) r kk = pre.length + (cntW (a + b.size + 8) r kk + 1) by omega]
    · rw [if_neg h, if_neg h]
      exact ⟨q, by omega, rfl⟩
theorem endW_rd (kk : Int) : ∀ (r : List ByteArray) (pre : List Int) (a : Int), rd (pre ++ endsF a r) ((pre.length + cntW a r kk : Nat) : Int) = endW a r kk := by
  intro r
  induction r with
  | nil => intro pre a; simp only [cntW, endW, endsF, Nat.add_zero]; exact rd_at' _ _ _ _ rfl
  | cons b r ih =>
    intro pre a
    simp only [cntW, endW]
    by_cases h : a + b.size + 8 ≤ kk
    · rw [if_pos h, if_pos h]
      have e := ih (pre ++ [a]) (a + b.size + 8)
      rw [List.append_assoc, List.singleton_append, List.length_append, List.length_singleton] at e
      rw [endsF, show pre.length + (cntW (a + b.size + 8) r kk + 1) = pre.length + 1 + cntW (a + b.size + 8) r kk by omega]
      exact e
    · rw [if_neg h, if_neg h]
      exact rd_at' _ _ _ _ rfl
theorem cntW_le : ∀ (r : List ByteArray) (a kk : Int), cntW a r kk ≤ r.length
  | [], _, _ => Nat.le_refl _
  | b :: r, a, kk => by
    have := cntW_le r (a + b.size + 8) kk
    simp only [cntW, List.length_cons]
    split <;> omega
theorem l2_run (bs : List ByteArray) (w : Nat) (hw : w ≤ bs.length) (hb : bs.length ≤ 1000) : ∀ (d k : Nat) (i : Int), 0 ≤ i → i + d = w → d < k → laws_FnFrames.l2 k bs (bs.take w) (w : Int) i = some true := by
  intro d
  induction d with
  | zero =>
    intro k i h0 h1 hk
    obtain ⟨q, rfl⟩ : ∃ m, k = m + 1 := ⟨k - 1, by omega⟩
    simp only [laws_FnFrames.l2]
    rw [if_neg (by omega)]
  | succ d ih =>
    intro k i h0 h1 hk
    obtain ⟨q, rfl⟩ : ∃ m, k = m + 1 := ⟨k - 1, by omega⟩
    have e : rdOf ByteArray.empty (bs.take w) i = rdOf ByteArray.empty bs i := by
      unfold rdOf
      rw [List.getD_eq_getElem?_getD, List.getD_eq_getElem?_getD, List.getElem?_take_of_lt (by omega)]
    have hl : ((bs.take w).length : Int) = w := by rw [List.length_take]; omega
    simp only [laws_FnFrames.l2]
    rw [if_pos (by omega), if_pos h0, hl, if_pos (by omega), if_pos (by omega), e, if_pos rfl, w64 (n := i + 1) (by omega) (by omega)]
    exact ih q (i + 1) (by omega) (by omega) (by omega)

theorem FnFrames_run (l : List Int) (h : ∀ x ∈ l, (Lit.int .u8 x).wf = true) (hl : l.length ≤ 1048576) : ∀ (d k : Nat) (bs : List ByteArray) (i v : Int), laws_at.f l 0 = some v → 0 ≤ v → v < 256 → 0 ≤ i → i + d = 1 + v % 5 → bs.length ≤ i → (∀ b ∈ bs, 1 ≤ b.size ∧ b.size ≤ 41) → (catF bs).length ≤ 100 * i → d + 1200000 < k →
    laws_FnFrames.l0 k l bs (endsF 0 bs) (strOfNums (catF bs)) i = some true := by
  intro d
  induction d with
  | zero =>
    intro k bs i v hv v0 v1 i0 i1 hb hs hc hk
    obtain ⟨q, rfl⟩ : ∃ m, k = m + 1 := ⟨k - 1, by omega⟩
    obtain ⟨a, ea, a0, a1⟩ := laws_at_ok l h hl 1 (by omega) (by omega)
    obtain ⟨c, ec, c0, c1⟩ := laws_at_ok l h hl 2 (by omega) (by omega)
    have hz : (strOfNums (catF bs)).size = (catF bs).length := size_strOfNums _
    simp only [laws_FnFrames.l0, hv, Option.bind_some]
    rw [tmod_nn v0, w64 (n := 1 + v % 5) (by omega) (by omega), if_neg (by omega), ea, Option.bind_some, ec, Option.bind_some]
    rw [w64 (n := a * 256) (by omega) (by omega), w64 (n := a * 256 + c) (by omega) (by omega), w64 (n := ((strOfNums (catF bs)).size : Int) + 1) (by omega) (by omega), if_neg (by omega)]
    have hm := tmod_range (a := a * 256 + c) (n := ((strOfNums (catF bs)).size : Int) + 1) (by omega) (by omega)
    generalize Int.tmod (a * 256 + c) (((strOfNums (catF bs)).size : Int) + 1) = kk at hm
    rw [if_pos hm.1, if_pos (by omega)]
    have hts : ((strOfNums (catF bs)).extract 0 kk.toNat).size = kk.toNat := by rw [ByteArray.size_extract]; omega
    rw [impl_Frames_f _ (by omega) _ (by omega)]
    simp only [Option.bind_some]
    have ht : (bytesOf ((strOfNums (catF bs)).extract 0 kk.toNat)).drop (0 : Int).toNat = (catF bs).take (((strOfNums (catF bs)).extract 0 kk.toNat).size - (0 : Int).toNat) := by
      rw [bytesOf_extract, bytesOf_strOfNums (catF_byt bs), hts]; simp
    have hbs : ∀ b ∈ bs, 1 ≤ b.size ∧ b.size ≤ 2000 := fun b hb2 => ⟨(hs b hb2).1, Nat.le_trans (hs b hb2).2 (by omega)⟩
    rw [frs_prefix bs 0 _ _ hbs (by omega) (by omega) ht (by omega), hts, show ((kk.toNat : Nat) : Int) = kk by omega]
    simp only []
    obtain ⟨q2, hq, e⟩ := l1_run 100 bs (bs.take (cntW 0 bs kk)) kk (endW 0 bs kk) bs [] 0 q (by simp; omega) (by omega)
    simp only [List.nil_append, List.length_nil, Nat.zero_add] at e
    refine Eq.trans e ?_
    have hw := cntW_le bs 0 kk
    have hrd := endW_rd kk bs [] 0
    simp only [List.nil_append, List.length_nil, Nat.zero_add] at hrd
    obtain ⟨q3, rfl⟩ : ∃ m, q2 = m + 2 := ⟨q2 - 2, by omega⟩
    simp only [laws_FnFrames.j2]
    rw [if_pos (by rw [List.length_take]; omega), if_pos (by omega), if_pos (by rw [endsF_length]; omega), hrd]
    simp only [laws_FnFrames.j3, bne_self_eq_false]
    rw [if_neg (by decide)]
    exact l2_run bs _ hw (by omega) (cntW 0 bs kk) q3 0 (by omega) (by omega) (by omega)
  | succ d ih =>
    intro k bs i v hv v0 v1 i0 i1 hb hs hc hk
    obtain ⟨q, rfl⟩ : ∃ m, k = m + 1 := ⟨k - 1, by omega⟩
    have hz : (strOfNums (catF bs)).size = (catF bs).length := size_strOfNums _
    simp only [laws_FnFrames.l0, hv, Option.bind_some]
    rw [tmod_nn v0, w64 (n := 1 + v % 5) (by omega) (by omega), if_pos (by omega)]
    obtain ⟨fr, ef, hf⟩ := laws_fresh_ok l i q (by omega)
    rw [ef]
    simp only [Option.bind_some]
    obtain ⟨t, et, hts⟩ := drawHex_ok fr (by omega) q (by omega)
    rw [et]
    simp only [Option.bind_some]
    have hx : ((⟨#[120]⟩ : ByteArray) ++ t).size = 1 + t.size := by rw [ByteArray.size_append]; rfl
    rw [if_pos (by omega), if_pos (by omega), impl_Frame_f _ (by omega) _ (by omega)]
    simp only [Option.bind_some]
    have hF := frame_length (b := (⟨#[120]⟩ : ByteArray) ++ t) (by omega) (by omega)
    have hbs : ∀ b ∈ bs, 1 ≤ b.size ∧ b.size ≤ 2000 := fun b hb2 => ⟨(hs b hb2).1, Nat.le_trans (hs b hb2).2 (by omega)⟩
    have f := ih q (bs ++ [(⟨#[120]⟩ : ByteArray) ++ t]) (i + 1) v hv v0 v1 (by omega) (by omega) (by simp; omega) (by
      intro b hb2
      rcases List.mem_append.1 hb2 with hb2 | hb2
      · exact hs b hb2
      · rw [List.mem_singleton.1 hb2]; omega) (by rw [catF_snoc, List.length_append, hF]; omega) (by omega)
    rw [endsF_snoc bs 0 _ hbs, catF_snoc] at f
    rw [if_pos (by rw [hz, size_strOfNums, hF]; omega), if_pos (by rw [endsF_length]; omega), w64 (n := i + 1) (by omega) (by omega), strOfNums_append, hz, size_strOfNums, hF]
    rw [show (0 : Int) + ((catF bs).length : Int) + (((⟨#[120]⟩ : ByteArray) ++ t).size : Int) + 8 = ((catF bs).length : Int) + ((((⟨#[120]⟩ : ByteArray) ++ t).size + 8 : Nat) : Int) by omega] at f
    exact f
theorem FnFrames : laws_FnFrames.Pure := by
  intro l h0 h1 h
  unfold laws_FnFrames.f laws_big.f
  simp only [Option.bind_some, decide_eq_true_eq]
  by_cases hb : (l.length : Int) > 1048576
  · exact ⟨0, by rw [if_pos hb]⟩
  · obtain ⟨K, hK⟩ : ∃ K : Nat, K = 1300000 := ⟨_, rfl⟩
    refine ⟨K, ?_⟩
    rw [if_neg hb]
    obtain ⟨v, ev, v0, v1⟩ := laws_at_ok l h (by omega) 0 (by omega) (by omega)
    have f := FnFrames_run l h (by omega) (1 + v % 5).toNat K [] 0 v ev v0 v1 (by omega) (by omega) (by simp) (by simp) (by simp [catF]) (by omega)
    rw [show endsF 0 [] = [0] from rfl, show strOfNums (catF []) = (⟨#[]⟩ : ByteArray) from rfl] at f
    exact f

end Go.Proofs.Ythpdodnkcobbaaa.Pure
