/- A snapshot that is written is read as it was; nothing but a whole one is read. -/
import Derived.Test.YthpdodnkcobbaaaPFnSnapBackx1
import Derived.Test.YthpdodnkcobbaaaPFnSnapBackx2
import Derived.Test.YthpdodnkcobbaaaPFnSnapBackx3
import Derived.Test.YthpdodnkcobbaaaPFnSnapBackx4
import Derived.Test.YthpdodnkcobbaaaPFnSnapBackx5
import Derived.Test.YthpdodnkcobbaaaBase
import Derived.Test.YthpdodnkcobbaaaNum
import Derived.Test.YthpdodnkcobbaaaNumCrc
import Derived.Test.YthpdodnkcobbaaaNumFrame
import Derived.Test.YthpdodnkcobbaaaNumRec
import Derived.Test.YthpdodnkcobbaaaNumSnap
namespace Go.Proofs.Ythpdodnkcobbaaa.Pure
open Go.RowKit Go.Proofs.Ythpdodnkcobbaaa.PFnSnapBack Go.Proofs.YthpdodnkcobbaaaW.PrintWords Go.Proofs.YthpdodnkcobbaaaW.PrintLast Go.Proofs.YthpdodnkcobbaaaW.PrintMore Go.Proofs.Ythpdodnkcobbaaa.Base
set_option linter.unusedVariables false
set_option linter.unusedSimpArgs false

/-! ranges -/
theorem spec_l1In_run (a b c : Int) : spec_l1In.f a b c = some (decide (b ≤ a ∧ a ≤ c)) := by
  unfold spec_l1In.f
  by_cases h : a ≥ b
  · rw [if_pos h]; congr 1; simp [show b ≤ a from h]
  · rw [if_neg h]; congr 1; simp; omega

theorem impl_from_run (a b c : Int) : impl_from.f a b c = some (decide (b ≤ a ∧ a ≤ c)) := by
  unfold impl_from.f
  by_cases h : a ≥ b
  · rw [if_pos h]; congr 1; simp [show b ≤ a from h]
  · rw [if_neg h]; congr 1; simp; omega

/-! fixed widths: what both sides use -/
def fixM (n w : Int) : List Int := if 1 ≤ w ∧ w ≤ 7 ∧ 0 ≤ n ∧ n < 256 ^ w.toNat then fixL w.toNat n else []
def rdFixM (s : ByteArray) (w : Int) : Int × Bool := if 1 ≤ w ∧ w ≤ 7 ∧ w ≤ (s.size : Int) then (be ((bytesOf s).take w.toNat), true) else (0, false)

theorem be_step {s : ByteArray} {i : Int} (h0 : 0 ≤ i) (h1 : i < (s.size : Int)) (h7 : i < 7) :
    be ((bytesOf s).take (i.toNat + 1)) = be ((bytesOf s).take i.toNat) * 256 + bt s i ∧ 0 ≤ be ((bytesOf s).take i.toNat) ∧ be ((bytesOf s).take i.toNat) < 281474976710656 := by
  refine ⟨by rw [bt_take h0 h1, be_snoc], ?_⟩
  obtain ⟨a, b⟩ := be_bound ((bytesOf s).take i.toNat) (byt_take (byt_bytesOf s) _)
  refine ⟨a, Int.lt_of_lt_of_le b ?_⟩
  have : ((bytesOf s).take i.toNat).length ≤ 6 := by rw [List.length_take]; omega
  exact Int.le_trans (pow256_le this) (show (256 : Int) ^ 6 ≤ 281474976710656 by decide)


theorem impl_Fixed_run (n : Int) : ∀ (d k : Nat) (xs : List Int), d ≤ 7 → xs.length + d < 100 → d < k →
    impl_Fixed.l0 k n xs ((d : Int) - 1) = some (strOfNums (xs ++ fixL d n)) := by
  intro d
  induction d with
  | zero =>
    intro k xs h7 hx hk
    obtain ⟨k, rfl⟩ : ∃ m, k = m + 1 := ⟨k - 1, by omega⟩
    simp only [impl_Fixed.l0]
    rw [if_neg (by omega)]; simp [fixL]
  | succ d ih =>
    intro k xs h7 hx hk
    obtain ⟨k, rfl⟩ : ∃ m, k = m + 1 := ⟨k - 1, by omega⟩
    simp only [impl_Fixed.l0]
    rw [show ((d + 1 : Nat) : Int) - 1 = (d : Int) by omega, if_pos (by omega), w64 (n := 8 * (d : Int)) (by omega) (by omega), if_pos (by omega), if_pos (by omega), w64 (n := (d : Int) - 1) (by omega) (by omega), shr8 n (by omega) (by omega), ih k _ (by omega) (by simp; omega) (by omega), fixL_cons]
    simp

theorem impl_Fixed_f (n w : Int) (k : Nat) (hk : 8 < k) : impl_Fixed.f k n w = some (strOfNums (fixM n w)) := by
  unfold impl_Fixed.f fixM
  rw [impl_from_run]; simp only [Option.bind_some, decide_eq_true_eq]
  obtain ⟨k, rfl⟩ : ∃ m, k = m + 1 := ⟨k - 1, by omega⟩
  by_cases h : 1 ≤ w ∧ w ≤ 7
  · rw [if_pos h]
    by_cases h2 : n < 0
    · rw [if_pos h2, if_neg (by omega)]; simp only [impl_Fixed.j0]; rfl
    · rw [if_neg h2, w64 (n := 8 * w) (by omega) (by omega), if_pos (by omega), shr8 n (by omega) (by omega)]
      have hp := pow256_pos w.toNat
      simp only [impl_Fixed.j0, bne_iff_ne, ne_eq]
      by_cases h3 : n < 256 ^ w.toNat
      · have hc : 1 ≤ w ∧ w ≤ 7 ∧ 0 ≤ n ∧ n < 256 ^ w.toNat := ⟨h.1, h.2, by omega, h3⟩
        rw [if_pos hc, Int.ediv_eq_zero_of_lt (by omega) h3, if_neg (by simp), w64 (n := w - 1) (by omega) (by omega)]
        have := impl_Fixed_run n w.toNat k [] (by omega) (by simp; omega) (by omega)
        rw [show ((w.toNat : Nat) : Int) - 1 = w - 1 by omega] at this
        rw [this]; simp
      · have hc : ¬ (1 ≤ w ∧ w ≤ 7 ∧ 0 ≤ n ∧ n < 256 ^ w.toNat) := fun hc => h3 hc.2.2.2
        have hd := div_ge_one hp (show 256 ^ w.toNat ≤ n by omega)
        rw [if_neg hc, if_pos (by omega)]; rfl
  · rw [if_neg h, if_neg (by omega)]
    simp only [impl_Fixed.j0]; rfl

theorem impl_Crc_inner (s : ByteArray) (n i : Int) : ∀ (d k : Nat) (j c : Int), j + d = 8 → 0 ≤ j → 0 ≤ c → c < 4294967296 →
    impl_Crc.l1 (k + d + 1) s c n i j = impl_Crc.l0 k s (crcI d c) n (wrap64 (i + 1)) := by
  intro d
  induction d with
  | zero =>
    intro k j c hj h0 c0 c1
    simp only [impl_Crc.l1]
    rw [if_neg (by omega)]; rfl
  | succ d ih =>
    intro k j c hj h0 c0 c1
    obtain ⟨q, hq⟩ : ∃ q, k + d + 1 = q := ⟨_, rfl⟩
    rw [show k + (d + 1) + 1 = q + 1 by omega]
    simp only [impl_Crc.l1]
    have hr := crc1_range c0 c1
    rw [if_pos (by omega), bits_and1 c0 c1, w64 (n := j + 1) (by omega) (by omega), crcI]
    by_cases h : c % 2 = 1
    · rw [if_pos h, bits_xor32 (by omega) (by omega) (by omega) (by omega)]
      have e : crc1 c = xr (c / 2) 2197175160 := by unfold crc1; rw [if_pos h]
      rw [← e, ← hq, ih k (j + 1) _ (by omega) (by omega) hr.1 hr.2]
    · rw [if_neg h]
      have e : crc1 c = c / 2 := by unfold crc1; rw [if_neg h]
      rw [← e, ← hq, ih k (j + 1) _ (by omega) (by omega) hr.1 hr.2]

theorem impl_Crc_run (s : ByteArray) (hs : s.size ≤ 140737488351232) : ∀ (d k : Nat) (i c : Int), 0 ≤ i → i + d = s.size → 0 ≤ c → c < 4294967296 →
    impl_Crc.l0 (k + 10 * d + 1) s c (s.size : Int) i = some (4294967295 - crcL ((bytesOf s).drop i.toNat) c) := by
  intro d
  induction d with
  | zero =>
    intro k i c h0 h1 c0 c1
    simp only [impl_Crc.l0]
    rw [if_neg (by omega), List.drop_of_length_le (by rw [bytesOf_length]; omega), bits_xor32 (by omega) (by omega) c0 c1, xr_ones c0 c1, w64 (by omega) (by omega)]; rfl
  | succ d ih =>
    intro k i c h0 h1 c0 c1
    obtain ⟨q, hq⟩ : ∃ q, (k + 10 * d + 1) + 8 + 1 = q := ⟨_, rfl⟩
    rw [show k + 10 * (d + 1) + 1 = q + 1 by omega]
    have hlt : i < (s.size : Int) := by omega
    obtain ⟨b0, b1⟩ := bt_range s i
    obtain ⟨r0, r1⟩ := xr_range (a := c) (b := bt s i) c1 (by omega)
    obtain ⟨q0, q1⟩ := crcI_range 8 r0 r1
    simp only [impl_Crc.l0]
    rw [if_pos hlt, if_pos h0, if_pos hlt, show bt s i % 4294967296 = bt s i by omega, bits_xor32 c0 c1 b0 (by omega), ← hq, impl_Crc_inner s _ i 8 _ 0 _ (by omega) (by omega) r0 r1, w64 (n := i + 1) (by omega) (by omega), ih k (i + 1) _ (by omega) (by omega) q0 q1, bt_drop h0 hlt, show (i + 1).toNat = i.toNat + 1 by omega]; rfl

theorem impl_Crc_f (s : ByteArray) (hs : s.size ≤ 140737488351232) (k : Nat) (hk : 10 * s.size < k) : impl_Crc.f k s = some (crcM (bytesOf s)) := by
  obtain ⟨q, rfl⟩ : ∃ m, k = m + 10 * s.size + 1 := ⟨k - 10 * s.size - 1, by omega⟩
  unfold impl_Crc.f
  exact impl_Crc_run s hs s.size q 0 _ (by omega) (by omega) (by omega) (by omega)


theorem impl_Frame_f (s : ByteArray) (hs : s.size ≤ 140737488351232) (k : Nat) (hk : 21000 < k) : impl_Frame.f k s = some (strOfNums (frameM (bytesOf s))) := by
  unfold impl_Frame.f frameM
  rw [bytesOf_length, impl_from_run]
  simp only [Option.bind_some, decide_eq_true_eq]
  by_cases h1 : 1 ≤ (s.size : Int) ∧ (s.size : Int) ≤ 2000
  · rw [if_pos h1, if_pos h1]
    · have hf : fixM (s.size : Int) 4 = fixL 4 s.size := by unfold fixM; rw [if_pos]; · rfl
                                                            · refine ⟨by omega, by omega, by omega, ?_⟩; rw [show ((4 : Int).toNat) = 4 from rfl]; omega
      have hz : (strOfNums (fixL 4 (s.size : Int))).size = 4 := by rw [size_strOfNums, fixL_length]
      have hb : bytesOf (strOfNums (fixL 4 (s.size : Int)) ++ s) = fixL 4 s.size ++ bytesOf s := by rw [bytesOf_append, bytesOf_strOfNums (fixL_byt _ _)]
      obtain ⟨c0, c1⟩ := crcM_range (l := fixL 4 (s.size : Int) ++ bytesOf s) (byt_append.2 ⟨fixL_byt _ _, byt_bytesOf s⟩)
      have hf2 : fixM (crcM (fixL 4 (s.size : Int) ++ bytesOf s)) 4 = fixL 4 (crcM (fixL 4 s.size ++ bytesOf s)) := by
        unfold fixM; rw [if_pos]; · rfl
        · refine ⟨by omega, by omega, c0, ?_⟩; rw [show ((4 : Int).toNat) = 4 from rfl]; omega
      rw [impl_Fixed_f _ _ _ (by omega), hf]
      simp only [Option.bind_some]
      rw [if_pos (by omega), impl_Crc_f _ (by rw [ByteArray.size_append]; omega) _ (by rw [ByteArray.size_append]; omega), hb]
      simp only [Option.bind_some]
      rw [impl_Fixed_f _ _ _ (by omega), hf2]
      simp only [Option.bind_some]
      rw [if_pos (by simp only [ByteArray.size_append, hz, size_strOfNums, fixL_length]; omega), if_pos (by simp only [ByteArray.size_append, hz, size_strOfNums, fixL_length]; omega), ← strOfNums_append, ← strOfNums_append, strOfNums_bytesOf]
  · rw [if_neg h1, if_neg h1]; rfl


theorem impl_ReadFixed_run (s : ByteArray) (w : Int) (hw : w ≤ 7) (hs : w ≤ (s.size : Int)) : ∀ (d k : Nat) (i : Int), 0 ≤ i → i + d = w → d < k →
    impl_ReadFixed.l0 k s (be ((bytesOf s).take i.toNat)) w i = some (be ((bytesOf s).take w.toNat), true) := by
  intro d
  induction d with
  | zero =>
    intro k i h0 h1 hk
    obtain ⟨k, rfl⟩ : ∃ m, k = m + 1 := ⟨k - 1, by omega⟩
    simp only [impl_ReadFixed.l0]
    rw [if_neg (by omega), show i = w by omega]
  | succ d ih =>
    intro k i h0 h1 hk
    obtain ⟨k, rfl⟩ : ∃ m, k = m + 1 := ⟨k - 1, by omega⟩
    obtain ⟨e, b0, b1⟩ := be_step (s := s) h0 (by omega) (by omega)
    obtain ⟨c0, c1⟩ := bt_range s i
    simp only [impl_ReadFixed.l0]
    rw [if_pos (by omega), if_pos h0, if_pos (by omega), w64 (n := bt s i) (by omega) (by omega), w64 (n := _ * 256) (by omega) (by omega), or_low b0 (by omega) (by omega) (by omega), w64 (n := i + 1) (by omega) (by omega), ← e]
    have := ih k (i + 1) (by omega) (by omega) (by omega)
    rwa [show (i + 1).toNat = i.toNat + 1 by omega] at this

theorem impl_ReadFixed_f (s : ByteArray) (w : Int) (k : Nat) (hk : 8 < k) : impl_ReadFixed.f k s w = some (rdFixM s w) := by
  unfold impl_ReadFixed.f rdFixM
  rw [impl_from_run]; simp only [Option.bind_some, decide_eq_true_eq]
  obtain ⟨k, rfl⟩ : ∃ m, k = m + 1 := ⟨k - 1, by omega⟩
  by_cases h : 1 ≤ w ∧ w ≤ 7
  · rw [if_pos h]
    simp only [impl_ReadFixed.j0, decide_eq_true_eq]
    by_cases h2 : (s.size : Int) < w
    · rw [if_pos h2, if_neg (by omega)]
    · rw [if_neg h2, if_pos (by omega)]
      have := impl_ReadFixed_run s w h.2 (by omega) w.toNat k 0 (by omega) (by omega) (by omega)
      exact this
  · rw [if_neg h, if_neg (by omega)]
    simp only [impl_ReadFixed.j0]; rfl

theorem bytes_sameI {a b : ByteArray} {l : List Int} (hl : Byt l) (ha : a = strOfNums l) : a.toList = b.toList ↔ l = bytesOf b := by
  rw [toList_eq_iff, ha]
  constructor
  · intro h; rw [← h, bytesOf_strOfNums hl]
  · intro h; rw [h, strOfNums_bytesOf]

theorem impl_Unframe_f (s : ByteArray) (hs : s.size ≤ 140737488351232) (k : Nat) (hk : 21001 < k) : impl_Unframe.f k s = some (unfM s) := by
  unfold impl_Unframe.f unfM
  rw [impl_ReadFixed_f _ _ _ (by omega)]
  simp only [Option.bind_some]
  unfold rdFixM
  by_cases h4 : (s.size : Int) < 4
  · rw [if_neg (show ¬ (1 ≤ (4 : Int) ∧ (4 : Int) ≤ 7 ∧ (4 : Int) ≤ (s.size : Int)) by omega), if_neg (by decide), if_pos h4]
  · rw [if_pos (show 1 ≤ (4 : Int) ∧ (4 : Int) ≤ 7 ∧ (4 : Int) ≤ (s.size : Int) by omega), if_pos rfl, if_neg h4]
    simp only
    rw [show (4 : Int).toNat = 4 from rfl]
    obtain ⟨b0, b1⟩ := be_bound ((bytesOf s).take 4) (byt_take (byt_bytesOf s) 4)
    have b2 : ((bytesOf s).take 4).length = 4 := by rw [List.length_take, bytesOf_length]; omega
    rw [b2] at b1
    generalize hn : be ((bytesOf s).take 4) = n at *
    rw [impl_from_run]
    simp only [Option.bind_some, decide_eq_true_eq]
    by_cases h0 : 1 ≤ n ∧ n ≤ 2000
    · rw [if_pos h0, if_pos h0, w64 (n := n + 8) (by omega) (by omega)]
      · by_cases h2 : (s.size : Int) < n + 8
        · rw [if_pos h2, if_pos h2]
        · have he : bytesOf (s.extract 8 (n + 8).toNat) = ((bytesOf s).take (n + 8).toNat).drop 8 := bytesOf_extract _ _ _
          have hz : (s.extract 8 (n + 8).toNat).size ≤ 2000 := by rw [size_bytes, he, List.length_drop, List.length_take]; omega
          rw [if_neg h2, if_neg h2, if_pos (show 8 ≤ n + 8 by omega), if_pos (show n + 8 ≤ (s.size : Int) by omega), impl_Frame_f _ (by omega) _ (by omega)]
          simp only [Option.bind_some]
          have hq := bytes_sameI (b := s.extract 0 (n + 8).toNat) (frameM_byt (byt_bytesOf (s.extract 8 (n + 8).toNat))) rfl
          rw [bytesOf_extract s 0, List.drop_zero] at hq
          rw [if_pos (show 0 ≤ n + 8 by omega)]
          rw [he] at hq ⊢
          simp only [hq]
          split <;> rfl
    · rw [if_neg h0, if_neg h0]


/-! SnapOk -/
theorem spec_SnapOk_run (i t : Int) (d : ByteArray) : spec_SnapOk.f i t d = some (snapOkM i t d.size) := by
  unfold spec_SnapOk.f snapOkM
  simp only [spec_l1In_run, Option.bind_some, decide_eq_true_eq, toList_nil]
  repeat' split
  all_goals (congr 1; rw [Bool.eq_iff_iff]; simp only [decide_eq_true_eq, Bool.and_eq_true, beq_iff_eq, true_iff, Bool.false_eq_true, false_iff, iff_true, iff_false]; omega)

theorem impl_isTerm_run (a : Int) : impl_isTerm.f a = some (decide (1 ≤ a ∧ a ≤ 100000)) := by
  unfold impl_isTerm.f; rw [impl_from_run]; rfl
theorem impl_SnapOk_run (i t : Int) (d : ByteArray) : impl_SnapOk.f i t d = some (snapOkM i t d.size) := by
  unfold impl_SnapOk.f snapOkM
  simp only [impl_from_run, impl_isTerm_run, Option.bind_some, decide_eq_true_eq, toList_nil]
  by_cases h : i = 0 ∧ t = 0 ∧ d.size = 0
  · obtain ⟨rfl, rfl, h⟩ := h
    rw [h]; rfl
  · rw [if_neg (by simpa using h)]
    repeat' split
    all_goals (congr 1; rw [Bool.eq_iff_iff]; simp only [decide_eq_true_eq, Bool.and_eq_true, beq_iff_eq, true_iff, Bool.false_eq_true, false_iff, iff_true, iff_false]; omega)

theorem fixM4 {n : Int} (h0 : 0 ≤ n) (h1 : n < 4294967296) : fixM n 4 = fixL 4 n := by
  unfold fixM; rw [if_pos]
  · rfl
  · refine ⟨by omega, by omega, h0, ?_⟩; rw [show ((4 : Int).toNat) = 4 from rfl]; omega


theorem impl_ShowSnap_j (i t : Int) (d : ByteArray) (h : snapOkM i t d.size = true) (hi : i ≠ 0) (k : Nat) (hk : 310000 < k) : impl_ShowSnap.j0 k false i t d = some (strOfNums (frameM (snapHead i t d) ++ bytesOf d)) := by
  obtain ⟨k, rfl⟩ : ∃ m, k = m + 1 := ⟨k - 1, by omega⟩
  obtain ⟨i0, i1, t0, t1, n1, _⟩ := snapOk_small h
  obtain ⟨c0, c1⟩ := crcM_range (byt_bytesOf d)
  have hz := snapHead_length i t d
  have hl := frameM_length (b := snapHead i t d) (by omega) (by omega)
  simp only [impl_ShowSnap.j0]
  rw [if_neg (by decide), impl_Fixed_f _ _ _ (by omega), impl_Fixed_f _ _ _ (by omega), fixM4 i0 (by omega), fixM4 t0 (by omega)]
  simp only [Option.bind_some, ByteArray.size_append, size_strOfNums, fixL_length]
  rw [if_pos (by omega), impl_Fixed_f _ _ _ (by omega), fixM4 (by omega) (by omega)]
  simp only [Option.bind_some, ByteArray.size_append, size_strOfNums, fixL_length]
  rw [if_pos (by omega), impl_Crc_f _ (by omega) _ (by omega)]
  simp only [Option.bind_some]
  rw [impl_Fixed_f _ _ _ (by omega), fixM4 c0 (by omega)]
  simp only [Option.bind_some, ByteArray.size_append, size_strOfNums, fixL_length]
  rw [if_pos (by omega), snapHead_eq, impl_Frame_f _ (by rw [size_strOfNums]; omega) _ (by omega), bytesOf_strOfNums (snapHead_byt _ _ _)]
  simp only [Option.bind_some, size_strOfNums]
  rw [if_pos (by omega), ← strOfNums_append, strOfNums_bytesOf]
theorem impl_ShowSnap_f (i t : Int) (d : ByteArray) (k : Nat) (hk : 310001 < k) : impl_ShowSnap.f k i t d = some (strOfNums (showSnapM i t d)) := by
  unfold impl_ShowSnap.f showSnapM
  rw [impl_SnapOk_run]
  simp only [Option.bind_some]
  have hn : impl_ShowSnap.j0 k true i t d = some (strOfNums []) := by
    obtain ⟨k, rfl⟩ : ∃ m, k = m + 1 := ⟨k - 1, by omega⟩
    simp only [impl_ShowSnap.j0]; rfl
  by_cases h : snapOkM i t d.size = true
  · rw [if_pos h]
    by_cases hi : i = 0
    · obtain ⟨_, h2, h3⟩ := (snapOk_small h).2.2.2.2.2.1 hi
      have e : (i == 0 && (t == 0 && (d.toList == ([] : List UInt8)))) = true := by rw [toList_nil, hi, h2, h3]; rfl
      rw [if_neg (fun g => g.2 hi), e, hn]
    · have e : (i == 0 && (t == 0 && (d.toList == ([] : List UInt8)))) = false := by rw [show (i == 0) = false by simpa using hi]; rfl
      rw [if_pos ⟨h, hi⟩, e, impl_ShowSnap_j i t d h hi k (by omega)]
  · rw [if_neg h, if_neg (fun g => h g.1), hn]


/-! ReadSnap -/
abbrev snI (s : ByteArray) : Int := (rdFixM (unfM s).1 4).1
abbrev snT (s : ByteArray) : Int := (rdFixM ((unfM s).1.extract 4 (unfM s).1.size) 4).1
abbrev snD (s : ByteArray) : ByteArray := s.extract (unfM s).2.1.toNat s.size
def rdSnapM (s : ByteArray) : Int × Int × ByteArray × Bool :=
  if (unfM s).2.2 = 0 ∧ (unfM s).1.size = 16 ∧ strOfNums (showSnapM (snI s) (snT s) (snD s)) = s then (snI s, snT s, snD s, true) else (0, 0, ⟨#[]⟩, false)

theorem unfM_16 {s : ByteArray} (h : (unfM s).1.size = 16) : (unfM s).2.2 = 0 := by
  by_cases h0 : (unfM s).2.2 = 0
  · exact h0
  · rw [(unfM_err h0).1] at h; exact absurd h (by decide)
theorem showSnapM_big {i t : Int} {d : ByteArray} (h : 30000 < d.size) : showSnapM i t d = [] := by
  unfold showSnapM; rw [if_neg]
  rintro ⟨g, hi⟩
  have := snapOk_small g; omega
theorem showSnapM_zero {t : Int} {d : ByteArray} : showSnapM 0 t d = [] := by
  unfold showSnapM; rw [if_neg (fun g => g.2 rfl)]


theorem impl_ReadSnap_f (s : ByteArray) (hs : s.size ≤ 140737488351232) (k : Nat) (hk : 310003 < k) : impl_ReadSnap.f k s = some (rdSnapM s) := by
  unfold impl_ReadSnap.f rdSnapM
  rw [impl_Unframe_f s hs _ (by omega)]
  simp only [Option.bind_some]
  obtain ⟨k, rfl⟩ : ∃ m, k = m + 1 := ⟨k - 1, by omega⟩
  simp only [impl_ReadSnap.j0]
  by_cases h0 : (unfM s).2.2 = 0
  · rw [if_pos h0]
    by_cases h1 : (unfM s).1.size = 16
    · obtain ⟨a0, a1, a2⟩ := unfM_ok h0
      rw [if_neg (by simp [h1]), if_pos (show 0 ≤ (unfM s).2.1 by omega), if_pos a2, impl_ReadFixed_f _ _ _ (by omega)]
      simp only [Option.bind_some]
      rw [if_pos (by omega), impl_ReadFixed_f _ _ _ (by omega)]
      simp only [Option.bind_some]
      by_cases h2 : ((rdFixM (unfM s).1 4).1 == 0 && ((rdFixM ((unfM s).1.extract 4 (unfM s).1.size) 4).1 == 0 && (((s.extract (unfM s).2.1.toNat s.size).toList) == ([] : List UInt8)))) = true
      · rw [if_pos h2]
        simp only [Bool.and_eq_true, beq_iff_eq] at h2
        rw [if_neg]
        rintro ⟨_, _, g⟩
        have hz : snI s = 0 := h2.1
        rw [hz, showSnapM_zero] at g
        have hz : s.size = 0 := by rw [← g]; rfl
        omega
      · rw [if_neg h2, impl_ShowSnap_f _ _ _ _ (by omega)]
        simp only [Option.bind_some]
        by_cases h3 : strOfNums (showSnapM (snI s) (snT s) (snD s)) = s
        · rw [if_pos (toList_eq_iff.2 h3), if_pos ⟨h0, h1, h3⟩]
        · rw [if_neg (fun g => h3 (toList_eq_iff.1 g)), if_neg (fun g => h3 g.2.2)]
    · rw [if_pos (by simp; omega), if_neg (fun g => h1 g.2.1)]
  · rw [if_neg h0, if_pos trivial, if_neg (fun g => h0 g.1)]


/-! frames one behind the other -/
theorem frame_parts {b : ByteArray} (h1 : 1 ≤ b.size) (h2 : b.size ≤ 2000) : ∃ c, frameM (bytesOf b) = fixL 4 (b.size : Int) ++ (c ++ bytesOf b) ∧ c.length = 4 := by
  unfold frameM
  rw [bytesOf_length, if_pos (by omega)]
  exact ⟨_, by rw [List.append_assoc], fixL_length _ _⟩
theorem frame_length {b : ByteArray} (h1 : 1 ≤ b.size) (h2 : b.size ≤ 2000) : (frameM (bytesOf b)).length = b.size + 8 := by
  rw [frameM_length (by rw [bytesOf_length]; exact h1) (by rw [bytesOf_length]; exact h2), bytesOf_length]
theorem be_head {b u : ByteArray} (h1 : 1 ≤ b.size) (h2 : b.size ≤ 2000) {R : List Int} (hu : bytesOf u = (frameM (bytesOf b) ++ R).take u.size) (h4 : 4 ≤ u.size) : be ((bytesOf u).take 4) = (b.size : Int) := by
  obtain ⟨c, e, hc⟩ := frame_parts h1 h2
  rw [hu, List.take_take, show min 4 u.size = 4 by omega, e, List.append_assoc, List.take_left' (fixL_length _ _)]
  exact be_fixL 4 _ (by omega) (by omega)
theorem unfM_whole {b u : ByteArray} (h1 : 1 ≤ b.size) (h2 : b.size ≤ 2000) {R : List Int} (hu : bytesOf u = (frameM (bytesOf b) ++ R).take u.size) (h : b.size + 8 ≤ u.size) : unfM u = (b, (b.size : Int) + 8, 0) := by
  have hbe := be_head h1 h2 hu (by omega)
  obtain ⟨c, e, hc⟩ := frame_parts h1 h2
  have hF := frame_length h1 h2
  have ht : (bytesOf u).take ((b.size : Int) + 8).toNat = frameM (bytesOf b) := by
    rw [hu, List.take_take, show min ((b.size : Int) + 8).toNat u.size = b.size + 8 by omega, List.take_left' hF]
  have hd : (frameM (bytesOf b)).drop 8 = bytesOf b := by
    rw [e, ← List.append_assoc, List.drop_left']
    rw [List.length_append, fixL_length, hc]
  unfold unfM
  rw [if_neg (by omega)]
  simp only [hbe, ht, hd]
  rw [if_pos (by omega), if_neg (by omega), if_pos trivial]
  have : u.extract 8 ((b.size : Int) + 8).toNat = b := bytesOf_inj (by rw [bytesOf_extract, ht, hd])
  rw [this]
theorem unfM_part {b u : ByteArray} (h1 : 1 ≤ b.size) (h2 : b.size ≤ 2000) {R : List Int} (hu : bytesOf u = (frameM (bytesOf b) ++ R).take u.size) (h : ¬ b.size + 8 ≤ u.size) : ¬ (unfM u).2.2 = 0 := by
  unfold unfM
  by_cases h4 : (u.size : Int) < 4
  · rw [if_pos h4]; simp
  · have hbe := be_head h1 h2 hu (by omega)
    rw [if_neg h4]
    simp only [hbe]
    rw [if_pos (by omega), if_pos (by omega)]; simp

/-! a snapshot's text -/
theorem snap_bytes {i t : Int} {d : ByteArray} (h : snapOkM i t d.size = true) (hi : i ≠ 0) : bytesOf (strOfNums (showSnapM i t d)) = frameM (snapHead i t d) ++ bytesOf d := by
  rw [bytesOf_strOfNums (showSnapM_byt i t d)]; unfold showSnapM; rw [if_pos ⟨h, hi⟩]
theorem snap_size {i t : Int} {d : ByteArray} (h : snapOkM i t d.size = true) (hi : i ≠ 0) : (strOfNums (showSnapM i t d)).size = d.size + 24 := by
  rw [size_bytes, snap_bytes h hi, List.length_append, frameM_length (by rw [snapHead_length]; omega) (by rw [snapHead_length]; omega), snapHead_length, bytesOf_length]; omega
theorem snap_parts (i t : Int) (d : ByteArray) : ∃ A B, frameM (snapHead i t d) ++ bytesOf d = A ++ (fixL 4 (d.size : Int) ++ B) ∧ A.length = 16 := by
  unfold frameM
  rw [if_pos (by rw [snapHead_length]; omega), snapHead_length]
  unfold snapHead
  exact ⟨fixL 4 ((16 : Nat) : Int) ++ fixL 4 (crcM (fixL 4 ((16 : Nat) : Int) ++ (fixL 4 i ++ fixL 4 t ++ fixL 4 (d.size : Int) ++ fixL 4 (crcM (bytesOf d))))) ++ fixL 4 i ++ fixL 4 t, fixL 4 (crcM (bytesOf d)) ++ bytesOf d, by simp only [List.append_assoc], by simp [fixL_length]⟩
theorem snap_lenfield {l : List Int} {i t : Int} {d : ByteArray} (h : l = frameM (snapHead i t d) ++ bytesOf d) (hd : d.size ≤ 30000) : be ((l.take 20).drop 16) = (d.size : Int) := by
  obtain ⟨A, B, e, hA⟩ := snap_parts i t d
  rw [h, e, List.drop_take, List.drop_left' hA, List.take_left' (fixL_length _ _)]
  exact be_fixL 4 _ (by omega) (Int.lt_of_le_of_lt (show (d.size : Int) ≤ 30000 by omega) (by decide))
theorem snap_back {i t : Int} {d : ByteArray} (h : snapOkM i t d.size = true) (hi : i ≠ 0) : rdSnapM (strOfNums (showSnapM i t d)) = (i, t, d, true) := by
  have hz := snap_size h hi
  have hb := snap_bytes h hi
  obtain ⟨i0, i1, t0, t1, d1, _⟩ := snapOk_small h
  generalize hT : strOfNums (showSnapM i t d) = T at hz hb
  have hB : bytesOf (strOfNums (snapHead i t d)) = snapHead i t d := bytesOf_strOfNums (snapHead_byt i t d)
  have hBz : (strOfNums (snapHead i t d)).size = 16 := by rw [size_strOfNums, snapHead_length]
  have hu : unfM T = (strOfNums (snapHead i t d), 24, 0) := by
    have := unfM_whole (b := strOfNums (snapHead i t d)) (u := T) (R := bytesOf d) (by omega) (by omega) (by rw [hB, hb, List.take_of_length_le]; rw [← hb, bytesOf_length]; omega) (by omega)
    rw [this, hBz]; rfl
  have e4 : (snapHead i t d).take 4 = fixL 4 i := by unfold snapHead; rw [List.append_assoc, List.append_assoc, List.take_left' (fixL_length _ _)]
  have e8 : ((snapHead i t d).drop 4).take 4 = fixL 4 t := by
    unfold snapHead; rw [List.append_assoc, List.append_assoc, List.drop_left' (fixL_length _ _), List.take_left' (fixL_length _ _)]
  have hI : snI T = i := by
    show (rdFixM (unfM T).1 4).1 = i
    rw [hu]; simp only
    unfold rdFixM
    rw [if_pos (by omega), hB]; simp only
    rw [show (4 : Int).toNat = 4 from rfl, e4]
    exact be_fixL 4 _ i0 (Int.lt_of_le_of_lt i1 (by decide))
  have hTt : snT T = t := by
    show (rdFixM ((unfM T).1.extract 4 (unfM T).1.size) 4).1 = t
    rw [hu]; simp only
    have hx := extract_size (strOfNums (snapHead i t d)) 4 (by omega)
    unfold rdFixM
    rw [if_pos (by omega), bytesOf_extract, hB]; simp only
    rw [show (4 : Int).toNat = 4 from rfl, hBz, List.take_of_length_le (l := snapHead i t d) (by rw [snapHead_length]; omega), e8]
    exact be_fixL 4 _ t0 (Int.lt_of_le_of_lt t1 (by decide))
  have hD : snD T = d := by
    show T.extract (unfM T).2.1.toNat T.size = d
    rw [hu]; simp only
    refine bytesOf_inj ?_
    rw [bytesOf_extract, List.take_of_length_le (by rw [bytesOf_length]; omega), hb, List.drop_left']
    rw [frameM_length (by rw [snapHead_length]; omega) (by rw [snapHead_length]; omega), snapHead_length]; rfl
  unfold rdSnapM
  rw [hI, hTt, hD, hT, hu]
  simp only
  rw [if_pos ⟨trivial, hBz, trivial⟩]
theorem snap_len {s : ByteArray} (h : (rdSnapM s).2.2.2 = true) : (s.size : Int) = 24 + be (((bytesOf s).take 20).drop 16) := by
  unfold rdSnapM at h
  split at h
  · rename_i g
    obtain ⟨g0, g1, g2⟩ := g
    obtain ⟨_, _, a2⟩ := unfM_ok g0
    by_cases hk : snapOkM (snI s) (snT s) (snD s).size = true ∧ snI s ≠ 0
    · have hz := snap_size hk.1 hk.2
      have hb := snap_bytes hk.1 hk.2
      rw [g2] at hz hb
      rw [snap_lenfield hb (snapOk_small hk.1).2.2.2.2.1]; omega
    · have : showSnapM (snI s) (snT s) (snD s) = [] := by unfold showSnapM; rw [if_neg hk]
      rw [this] at g2
      have hz : s.size = 0 := by rw [← g2]; rfl
      have := (unfM_ok g0).1
      omega
  · simp at h
theorem snap_other {i t : Int} {d s : ByteArray} (h : snapOkM i t d.size = true) (hi : i ≠ 0) (hs : s.size ≠ d.size + 24) (hb : 20 ≤ s.size → (bytesOf s).take 20 = (bytesOf (strOfNums (showSnapM i t d))).take 20) : (rdSnapM s).2.2.2 = false := by
  by_cases g : (rdSnapM s).2.2.2 = true
  · exfalso
    have h1 := snap_len g
    have h2 := be_bound (((bytesOf s).take 20).drop 16) (byt_drop (byt_take (byt_bytesOf s) _) _)
    rw [hb (by omega), snap_lenfield (snap_bytes h hi) (snapOk_small h).2.2.2.2.1] at h1
    omega
  · simpa using g

/-! what is drawn -/
theorem and_low (x : Int) : 0 ≤ Go.bits .and .i64 x 255 ∧ Go.bits .and .i64 x 255 < 256 := by
  have e3 : Go.bits .and .i64 x 255 = IntKind.i64.wrap ((BitVec.ofInt 64 x &&& BitVec.ofInt 64 255).toNat : Int) := rfl
  have h : (BitVec.ofInt 64 x &&& BitVec.ofInt 64 255).toNat ≤ 255 := by
    rw [BitVec.toNat_and]
    exact Nat.le_trans Nat.and_le_right (by decide)
  rw [e3]
  generalize (BitVec.ofInt 64 x &&& BitVec.ofInt 64 255).toNat = m at h
  rw [wrapi (by omega) (by omega)]
  omega
theorem l1Byte_ok (l : List Int) (p s : Int) (hl : l.length ≤ 140737488355328) (h0 : 0 ≤ p) (h1 : p ≤ l.length) : ∃ b p' s', spec_l1Byte.f l p s = some (b, p', s') ∧ (0 ≤ b ∧ b < 256) ∧ 0 ≤ p' ∧ p' ≤ l.length := by
  unfold spec_l1Byte.f
  by_cases h : p < (l.length : Int)
  · rw [if_pos h, if_pos h0]
    refine ⟨_, _, _, rfl, and_low _, ?_⟩
    rw [w64 (n := p + 1) (by omega) (by omega)]; omega
  · rw [if_neg h]
    exact ⟨_, _, _, rfl, and_low _, h0, h1⟩
theorem tmod_range {a n : Int} (h0 : 0 ≤ a) (hn : 0 < n) : 0 ≤ Int.tmod a n ∧ Int.tmod a n < n := by
  rw [tmod_nn h0]; exact ⟨Int.emod_nonneg _ (by omega), Int.emod_lt_of_pos _ hn⟩
theorem l1Below_ok (l : List Int) (p s n : Int) (hl : l.length ≤ 140737488355328) (h0 : 0 ≤ p) (h1 : p ≤ l.length) : ∃ v p' s', spec_l1Below.f l p s n = some (v, p', s') ∧ 0 ≤ v ∧ (0 < n → v < n) ∧ 0 ≤ p' ∧ p' ≤ l.length := by
  unfold spec_l1Below.f
  by_cases hn : n ≤ 0
  · rw [if_pos hn]; exact ⟨_, _, _, rfl, by omega, by omega, h0, h1⟩
  · rw [if_neg hn]
    obtain ⟨b, p1, s1, e1, ⟨b0, b1⟩, q0, q1⟩ := l1Byte_ok l p s hl h0 h1
    rw [e1]
    simp only [Option.bind_some]
    by_cases hn2 : n ≤ 256
    · rw [if_pos hn2, if_neg (by omega)]
      have := tmod_range (a := b) (n := n) b0 (by omega)
      exact ⟨_, _, _, rfl, this.1, fun _ => this.2, q0, q1⟩
    · rw [if_neg hn2]
      obtain ⟨c, p2, s2, e2, ⟨c0, c1⟩, q2, q3⟩ := l1Byte_ok l p1 s1 hl q0 q1
      rw [e2]
      simp only [Option.bind_some]
      obtain ⟨d, p3, s3, e3, ⟨d0, d1⟩, q4, q5⟩ := l1Byte_ok l p2 s2 hl q2 q3
      rw [e3]
      simp only [Option.bind_some]
      obtain ⟨f, p4, s4, e4, ⟨f0, f1⟩, q6, q7⟩ := l1Byte_ok l p3 s3 hl q4 q5
      rw [e4]
      simp only [Option.bind_some]
      rw [if_neg (by omega), w64 (n := b * 16777216) (by omega) (by omega), w64 (n := c * 65536) (by omega) (by omega), w64 (n := d * 256) (by omega) (by omega), w64 (n := b * 16777216 + c * 65536) (by omega) (by omega), w64 (n := b * 16777216 + c * 65536 + d * 256) (by omega) (by omega), w64 (n := b * 16777216 + c * 65536 + d * 256 + f) (by omega) (by omega)]
      have := tmod_range (a := b * 16777216 + c * 65536 + d * 256 + f) (n := n) (by omega) (by omega)
      exact ⟨_, _, _, rfl, this.1, fun _ => this.2, q6, q7⟩
theorem l1Text_run : ∀ (d k : Nat) (acc : List Int) (m c : Int) (l : List Int) (p s : Int), c = d → acc.length + d ≤ 1000000 → l.length ≤ 140737488355328 → 0 ≤ p → p ≤ l.length → d < k →
    ∃ t p' s', spec_l1Text.l0 k acc m c l p s = some (t, p', s') ∧ t.size = acc.length + d ∧ 0 ≤ p' ∧ p' ≤ l.length := by
  intro d
  induction d with
  | zero =>
    intro k acc m c l p s hc ha hl h0 h1 hk
    obtain ⟨q, rfl⟩ : ∃ m, k = m + 1 := ⟨k - 1, by omega⟩
    simp only [spec_l1Text.l0]
    rw [if_neg (by omega)]
    exact ⟨_, _, _, rfl, by rw [size_strOfNums]; omega, h0, h1⟩
  | succ d ih =>
    intro k acc m c l p s hc ha hl h0 h1 hk
    obtain ⟨q, rfl⟩ : ∃ m, k = m + 1 := ⟨k - 1, by omega⟩
    obtain ⟨b, p1, s1, e1, _, q0, q1⟩ := l1Byte_ok l p s hl h0 h1
    have hc2 : wrap64 (c - 1) = (d : Int) := by rw [w64 (n := c - 1) (by omega) (by omega)]; omega
    have key : ∀ x, ∃ t p' s', spec_l1Text.l0 q (acc ++ [x]) m (wrap64 (c - 1)) l p1 s1 = some (t, p', s') ∧ t.size = acc.length + (d + 1) ∧ 0 ≤ p' ∧ p' ≤ l.length := by
      intro x
      obtain ⟨t, p', s', e, hs, g0, g1⟩ := ih q (acc ++ [x]) m (wrap64 (c - 1)) l p1 s1 hc2 (by simp; omega) hl q0 q1 (by omega)
      exact ⟨t, p', s', e, by rw [hs]; simp; omega, g0, g1⟩
    simp only [spec_l1Text.l0]
    rw [if_pos (by omega), e1]
    simp only [Option.bind_some]
    by_cases h1m : m = 1
    · rw [if_pos h1m, if_neg (by omega), if_pos (by omega)]; exact key _
    · rw [if_neg h1m]
      by_cases h2m : m = 2
      · rw [if_pos h2m, if_pos (by omega)]; exact key _
      · rw [if_neg h2m, if_pos (by omega)]; exact key _
theorem l1Text_ok (k : Nat) (l : List Int) (p s n : Int) (hl : l.length ≤ 140737488355328) (h0 : 0 ≤ p) (h1 : p ≤ l.length) (n0 : 0 ≤ n) (n1 : n ≤ 100000) (hk : n < k) : ∃ t p' s', spec_l1Text.f k l p s n = some (t, p', s') ∧ (t.size : Int) ≤ n ∧ 0 ≤ p' ∧ p' ≤ l.length := by
  unfold spec_l1Text.f
  obtain ⟨v, p1, s1, e1, _, _, q0, q1⟩ := l1Below_ok l p s 4 hl h0 h1
  rw [e1]
  simp only [Option.bind_some]
  obtain ⟨c, p2, s2, e2, c0, c1, q2, q3⟩ := l1Below_ok l p1 s1 (wrap64 (n + 1)) hl q0 q1
  rw [e2]
  simp only [Option.bind_some]
  have hw := w64 (n := n + 1) (by omega) (by omega)
  rw [hw] at c1
  have c2 := c1 (by omega)
  obtain ⟨t, p', s', e, hs, g⟩ := l1Text_run c.toNat k [] v c l p2 s2 (by omega) (by simp; omega) hl q2 q3 (by omega)
  refine ⟨t, p', s', e, ?_, g⟩
  rw [hs]; simp; omega
theorem l1New_run (l : List Int) (hl : l.length ≤ 140737488355328) : ∀ (d k : Nat) (x3 x4 : Int), 0 ≤ x4 → x4 ≤ 4000 → x4 + d = 4001 → d < k → ∃ s, spec_l1New.l0 k l x3 x4 = some (l, 0, s) := by
  intro d
  induction d with
  | zero => intro k x3 x4 h0 h1 h2; omega
  | succ d ih =>
    intro k x3 x4 h0 h1 h2 hk
    obtain ⟨q, rfl⟩ : ∃ m, k = m + 1 := ⟨k - 1, by omega⟩
    simp only [spec_l1New.l0]
    by_cases a : x4 < (l.length : Int)
    · rw [if_pos a]
      by_cases b : x4 < 4000
      · rw [if_pos b, if_pos h0, w64 (n := x4 + 1) (by omega) (by omega)]
        exact ih q _ _ (by omega) (by omega) (by omega) (by omega)
      · rw [if_neg b]; exact ⟨_, rfl⟩
    · rw [if_neg a]; exact ⟨_, rfl⟩
theorem l1New_ok (l : List Int) (hl : l.length ≤ 140737488355328) (k : Nat) (hk : 4001 < k) : ∃ s, spec_l1New.f k l = some (l, 0, s) := by
  unfold spec_l1New.f
  exact l1New_run l hl 4001 k _ 0 (by omega) (by omega) (by omega) hk

theorem l1Once_ok (l : List Int) (p s n : Int) (hl : l.length ≤ 140737488355328) (h0 : 0 ≤ p) (h1 : p ≤ l.length) : ∃ v p' s', spec_l1Once.f l p s n = some (v, p', s') ∧ 0 ≤ p' ∧ p' ≤ l.length := by
  unfold spec_l1Once.f
  obtain ⟨v, p1, s1, e1, _, _, q0, q1⟩ := l1Below_ok l p s n hl h0 h1
  rw [e1]; exact ⟨_, _, _, rfl, q0, q1⟩
theorem l1PickInt_ok (l : List Int) (p s : Int) (c : List Int) (hc : 0 < c.length) (hl : l.length ≤ 140737488355328) (h0 : 0 ≤ p) (h1 : p ≤ l.length) : ∃ v p' s', spec_l1PickInt.f l p s c = some (v, p', s') ∧ 0 ≤ p' ∧ p' ≤ l.length := by
  unfold spec_l1PickInt.f
  obtain ⟨v, p1, s1, e1, v0, v1, q0, q1⟩ := l1Below_ok l p s c.length hl h0 h1
  rw [e1]; simp only [Option.bind_some]
  rw [if_pos v0, if_pos (v1 (by omega))]; exact ⟨_, _, _, rfl, q0, q1⟩
theorem l6Snap_run : ∀ (d k : Nat) (x4 : Int) (acc l : List Int) (p s i t : Int) (u : ByteArray), x4 ≤ acc.length + d → acc.length + d ≤ 100000 → d < k →
    ∃ w, spec_l6Snap.l0 k x4 acc l p s i t u = some (i, t, w, p, s) ∧ w.size ≤ 100000 := by
  intro d
  induction d with
  | zero =>
    intro k x4 acc l p s i t u h0 h1 hk
    obtain ⟨q, rfl⟩ : ∃ m, k = m + 1 := ⟨k - 1, by omega⟩
    simp only [spec_l6Snap.l0]
    rw [if_neg (by omega)]
    exact ⟨_, rfl, by rw [size_strOfNums]; omega⟩
  | succ d ih =>
    intro k x4 acc l p s i t u h0 h1 hk
    obtain ⟨q, rfl⟩ : ∃ m, k = m + 1 := ⟨k - 1, by omega⟩
    simp only [spec_l6Snap.l0]
    by_cases h : (acc.length : Int) < x4
    · rw [if_pos h, if_pos (by omega)]
      exact ih q x4 _ l p s i t u (by simp; omega) (by simp; omega) (by omega)
    · rw [if_neg h]
      exact ⟨_, rfl, by rw [size_strOfNums]; omega⟩
theorem l6Snap_ok (l : List Int) (p s : Int) (k : Nat) (hk : 100001 < k) (hl : l.length ≤ 140737488355328) (h0 : 0 ≤ p) (h1 : p ≤ l.length) : ∃ i t d p' s', spec_l6Snap.f k l p s = some (i, t, d, p', s') ∧ d.size ≤ 100000 ∧ 0 ≤ p' ∧ p' ≤ l.length := by
  unfold spec_l6Snap.f
  obtain ⟨a, p1, s1, e1, q0, q1⟩ := l1Once_ok l p s 8 hl h0 h1
  rw [e1]; simp only [Option.bind_some]
  by_cases ha : a = true
  · rw [if_pos ha]; exact ⟨_, _, _, _, _, rfl, by decide, q0, q1⟩
  · rw [if_neg ha]
    obtain ⟨v, p2, s2, e2, v0, v1, q2, q3⟩ := l1Below_ok l p1 s1 12 hl q0 q1
    rw [e2]; simp only [Option.bind_some]
    obtain ⟨u, p3, s3, e3, u0, u1, q4, q5⟩ := l1Below_ok l p2 s2 6 hl q2 q3
    rw [e3]; simp only [Option.bind_some]
    obtain ⟨t, p4, s4, e4, ht, q6, q7⟩ := l1Text_ok k l p3 s3 30 hl q4 q5 (by omega) (by omega) (by omega)
    rw [e4]; simp only [Option.bind_some]
    obtain ⟨b, p5, s5, e5, q8, q9⟩ := l1Once_ok l p4 s4 40 hl q6 q7
    rw [e5]; simp only [Option.bind_some]
    by_cases hb : b = true
    · rw [if_pos hb]
      obtain ⟨x, p6, s6, e6, x0, x1, r0, r1⟩ := l1Below_ok l p5 s5 2 hl q8 q9
      rw [e6]; simp only [Option.bind_some]
      have := x1 (by omega)
      obtain ⟨w, ew, hw⟩ := l6Snap_run 100000 k (wrap64 (30000 + x)) [] l p6 s6 (wrap64 (1 + v)) (wrap64 (1 + u)) t (by rw [w64 (n := 30000 + x) (by omega) (by omega)]; simp; omega) (by simp) (by omega)
      rw [ew]; exact ⟨_, _, _, _, _, rfl, hw, r0, r1⟩
    · rw [if_neg hb]; exact ⟨_, _, _, _, _, rfl, by omega, q8, q9⟩
theorem l6AnySnap_j (l : List Int) (p s i t : Int) (d : ByteArray) (k : Nat) (hk : 0 < k) (hl : l.length ≤ 140737488355328) (h0 : 0 ≤ p) (h1 : p ≤ l.length) : ∃ i2 t2 p' s', spec_l6AnySnap.j0 k l p s i t d = some (i2, t2, d, p', s') := by
  obtain ⟨k, rfl⟩ : ∃ m, k = m + 1 := ⟨k - 1, by omega⟩
  simp only [spec_l6AnySnap.j0]
  obtain ⟨a, p1, s1, e1, q0, q1⟩ := l1Once_ok l p s 8 hl h0 h1
  rw [e1]; simp only [Option.bind_some]
  by_cases ha : a = true
  · rw [if_pos ha]
    obtain ⟨v, p2, s2, e2, _⟩ := l1PickInt_ok l p1 s1 [-1, 0, 1, 100000, 100001] (by decide) hl q0 q1
    rw [e2]; exact ⟨_, _, _, _, rfl⟩
  · rw [if_neg ha]; exact ⟨_, _, _, _, rfl⟩
theorem drawSnap_ok (l : List Int) (k : Nat) (hk : 100001 < k) (hl : l.length ≤ 140737488355328) : ∃ i t d, spec_DrawShowSnap.f k l = some (i, t, d) ∧ d.size ≤ 100000 := by
  unfold spec_DrawShowSnap.f
  obtain ⟨s, e⟩ := l1New_ok l hl k (by omega)
  rw [e]; simp only [Option.bind_some]
  unfold spec_l6AnySnap.f
  obtain ⟨i, t, d, p1, s1, e1, hd, q0, q1⟩ := l6Snap_ok l 0 s k hk hl (by omega) (by omega)
  rw [e1]; simp only [Option.bind_some]
  obtain ⟨a, p2, s2, e2, q2, q3⟩ := l1Once_ok l p1 s1 8 hl q0 q1
  rw [e2]; simp only [Option.bind_some]
  by_cases ha : a = true
  · rw [if_pos ha]
    obtain ⟨v, p3, s3, e3, q4, q5⟩ := l1PickInt_ok l p2 s2 [-1, 0, 1, 100000, 100001] (by decide) hl q2 q3
    rw [e3]; simp only [Option.bind_some]
    obtain ⟨i2, t2, p4, s4, e4⟩ := l6AnySnap_j l p3 s3 v t d k (by omega) hl q4 q5
    rw [e4]; exact ⟨_, _, _, rfl, hd⟩
  · rw [if_neg ha]
    obtain ⟨i2, t2, p4, s4, e4⟩ := l6AnySnap_j l p2 s2 i t d k (by omega) hl q2 q3
    rw [e4]; exact ⟨_, _, _, rfl, hd⟩

theorem FnSnapBack : laws_FnSnapBack.Pure := by
  intro l hm hl hw
  refine ⟨400000, ?_⟩
  unfold laws_FnSnapBack.f laws_big.f
  simp only [Option.bind_some, decide_eq_true_eq]
  by_cases hbig : (l.length : Int) > 1048576
  · rw [if_pos hbig]
  · rw [if_neg hbig]
    obtain ⟨i, t, d, e, hd⟩ := drawSnap_ok l 400000 (by omega) (by omega)
    rw [e]; simp only [Option.bind_some]
    rw [impl_ShowSnap_f _ _ _ _ (by omega)]; simp only [Option.bind_some]
    have hTz : (strOfNums (showSnapM i t d)).size ≤ 200000 := by
      rw [size_strOfNums]
      by_cases h : snapOkM i t d.size = true ∧ i ≠ 0
      · have := snap_size h.1 h.2
        rw [size_strOfNums] at this; omega
      · unfold showSnapM; rw [if_neg h]; simp
    rw [impl_ReadSnap_f _ (by omega) _ (by omega), spec_SnapOk_run]
    simp only [Option.bind_some]
    obtain ⟨q, hq⟩ : ∃ m, (400000 : Nat) = m + 1 := ⟨399999, rfl⟩
    rw [hq]
    by_cases h : snapOkM i t d.size = true ∧ i ≠ 0
    · have hz := snap_size h.1 h.2
      have hne : ¬ ((strOfNums (showSnapM i t d)).toList = ([] : List UInt8)) := by
        intro g
        have hh : decide ((strOfNums (showSnapM i t d)).size = 0) = true := by rw [← toList_nil, g]; rfl
        have := of_decide_eq_true hh
        omega
      rw [if_pos h.1]
      simp only [laws_FnSnapBack.j0]
      rw [if_neg (by simpa using h.2), if_neg hne, w64 (n := ((strOfNums (showSnapM i t d)).size : Int) - 1) (by omega) (by omega), if_pos (by omega), if_pos (by omega)]
      have hx := size_bytes ((strOfNums (showSnapM i t d)).extract 0 (((strOfNums (showSnapM i t d)).size : Int) - 1).toNat)
      rw [bytesOf_extract, List.drop_zero, List.length_take, bytesOf_length] at hx
      rw [impl_ReadSnap_f _ (by omega) _ (by omega)]; simp only [Option.bind_some]
      rw [if_pos (by omega), impl_ReadSnap_f _ (by rw [ByteArray.size_append]; have : (⟨#[120]⟩ : ByteArray).size = 1 := rfl; omega) _ (by omega)]; simp only [Option.bind_some]
      rw [snap_other (s := (strOfNums (showSnapM i t d)).extract 0 (((strOfNums (showSnapM i t d)).size : Int) - 1).toNat) h.1 h.2 (by omega) (fun h20 => by rw [bytesOf_extract, List.drop_zero, List.take_take, show min 20 (((strOfNums (showSnapM i t d)).size : Int) - 1).toNat = 20 by omega])]
      rw [snap_other (s := strOfNums (showSnapM i t d) ++ ⟨#[120]⟩) h.1 h.2 (by rw [ByteArray.size_append]; have : (⟨#[120]⟩ : ByteArray).size = 1 := rfl; omega) (fun h20 => by rw [bytesOf_append, List.take_append_of_le_length (by rw [bytesOf_length]; omega)])]
      rw [snap_back h.1 h.2]
      simp
    · have hT : showSnapM i t d = [] := by unfold showSnapM; rw [if_neg h]
      have hr : (rdSnapM (strOfNums [])).2.2.2 = false := by
        unfold rdSnapM; rw [if_neg]
        rintro ⟨g, _⟩
        rw [unfM_end rfl] at g; exact absurd g (by decide)
      have hj : ∀ a b c x y z, laws_FnSnapBack.j0 (q + 1) (strOfNums []) false true a b c x y z = some true := fun a b c x y z => by
        simp only [laws_FnSnapBack.j0]
        rw [if_pos trivial, if_pos (show (strOfNums []).toList = ([] : List UInt8) from by rw [ByteArray.toList_eq]; rfl)]; rfl
      rw [hT, hr]
      by_cases h1 : snapOkM i t d.size = true
      · rw [if_pos h1]
        have : i = 0 := by
          by_cases g : i = 0
          · exact g
          · exact absurd ⟨h1, g⟩ h
        rw [this]; exact hj _ _ _ _ _ _
      · rw [if_neg h1]; exact hj _ _ _ _ _ _

end Go.Proofs.Ythpdodnkcobbaaa.Pure
