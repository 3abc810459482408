/- FnExactReadDec: for every text the program's ReadDec returns what the reference's returns. -/
import Derived.Test.YtkmhjhbodocadaaPFnExactReadDecx2
import Derived.Test.YtkmhjhbodocadaaBase
import Derived.Test.YtkmhjhbodocadaaNumDec
import Derived.Test.YtkmhjhbodocadaaNumReadDec
namespace Go.Proofs.Ytkmhjhbodocadaa.Pure
open Go.RowKit Go.Proofs.Ytkmhjhbodocadaa.PFnExactReadDec Go.Proofs.YtkmhjhbodocadaaW.PrintWords Go.Proofs.YtkmhjhbodocadaaW.PrintLast Go.Proofs.YtkmhjhbodocadaaW.PrintMore Go.Proofs.Ytkmhjhbodocadaa.Base
set_option linter.unusedVariables false
set_option linter.unusedSimpArgs false

/-! Dec -/
def sgn (neg : Bool) : List Int := if neg then [45] else []
theorem strOf45 : (⟨#[45]⟩ : ByteArray) = strOfNums [45] := by decide

theorem spec_Dec_end (k : Nat) (l : List Int) (neg : Bool) (hl : l.length < 100) : spec_Dec.l0 (k + 1) 0 (strOfNums l) neg = some (strOfNums (sgn neg ++ l)) := by
  simp only [spec_Dec.l0]
  rw [if_pos trivial]
  cases neg
  · rfl
  · rw [if_pos rfl, if_pos (by rw [size_strOfNums]; omega), strOf45, strOfNums_append]; rfl

theorem spec_Dec_pos : ∀ (d k n : Nat) (l : List Int) (neg : Bool), 0 < n → n < 10 ^ (d + 1) → n ≤ 9223372036854775807 → l.length + d < 90 → d + 1 < k →
    spec_Dec.l0 k (n : Int) (strOfNums l) neg = some (strOfNums (sgn neg ++ (decN n ++ l))) := by
  intro d
  induction d with
  | zero =>
    intro k n l neg n0 n1 hd hl hk
    obtain ⟨q, rfl⟩ : ∃ m, k = m + 1 := ⟨k - 1, by omega⟩
    simp only [spec_Dec.l0]
    rw [if_neg (by omega), tmod_nn (by omega), tdiv_nn (by omega), if_neg (by omega), w64 (n := 48 + (n : Int) % 10) (by omega) (by omega), w64 (n := (n : Int) / 10) (by omega) (by omega)]
    simp only [Option.bind_some]
    rw [if_pos (by rw [size_strOfNums, size_strOfNums]; simp; omega), strOfNums_append, show (n : Int) / 10 = 0 by omega, show q = (q - 1) + 1 by omega, spec_Dec_end _ _ _ (by simp; omega), decN_lt (by omega), show (48 + (n : Int) % 10) % 256 = 48 + (n : Int) by omega]
  | succ d ih =>
    intro k n l neg n0 n1 hd hl hk
    obtain ⟨q, rfl⟩ : ∃ m, k = m + 1 := ⟨k - 1, by omega⟩
    simp only [spec_Dec.l0]
    rw [if_neg (by omega), tmod_nn (by omega), tdiv_nn (by omega), if_neg (by omega), w64 (n := 48 + (n : Int) % 10) (by omega) (by omega), w64 (n := (n : Int) / 10) (by omega) (by omega)]
    simp only [Option.bind_some]
    rw [if_pos (by rw [size_strOfNums, size_strOfNums]; simp; omega), strOfNums_append]
    by_cases h : n < 10
    · rw [show (n : Int) / 10 = 0 by omega, show q = (q - 1) + 1 by omega, spec_Dec_end _ _ _ (by simp; omega), decN_lt h, show (48 + (n : Int) % 10) % 256 = 48 + (n : Int) by omega]
    · rw [show (n : Int) / 10 = ((n / 10 : Nat) : Int) by omega, ih q (n / 10) _ neg (by omega) (by rw [pow10] at n1; omega) (by omega) (by simp; omega) (by omega), decN_ge h, show (48 + (n : Int) % 10) % 256 = 48 + ((n % 10 : Nat) : Int) by omega]
      simp

theorem spec_Dec_neg : ∀ (d k n : Nat) (l : List Int) (neg : Bool), 0 < n → n < 10 ^ (d + 1) → n ≤ 9223372036854775808 → l.length + d < 90 → d + 1 < k →
    spec_Dec.l0 k (-(n : Int)) (strOfNums l) neg = some (strOfNums (sgn neg ++ (decN n ++ l))) := by
  intro d
  induction d with
  | zero =>
    intro k n l neg n0 n1 hd hl hk
    obtain ⟨q, rfl⟩ : ∃ m, k = m + 1 := ⟨k - 1, by omega⟩
    simp only [spec_Dec.l0]
    rw [if_neg (by omega), tmod_neg _ _ (by omega), tdiv_neg _ _ (by omega), if_pos (by omega), Int.neg_neg, w64 (n := (n : Int) % 10) (by omega) (by omega), w64 (n := 48 + (n : Int) % 10) (by omega) (by omega), w64 (n := -((n : Int) / 10)) (by omega) (by omega)]
    simp only [Option.bind_some]
    rw [if_pos (by rw [size_strOfNums, size_strOfNums]; simp; omega), strOfNums_append, show -((n : Int) / 10) = 0 by omega, show q = (q - 1) + 1 by omega, spec_Dec_end _ _ _ (by simp; omega), decN_lt (by omega), show (48 + (n : Int) % 10) % 256 = 48 + (n : Int) by omega]
  | succ d ih =>
    intro k n l neg n0 n1 hd hl hk
    obtain ⟨q, rfl⟩ : ∃ m, k = m + 1 := ⟨k - 1, by omega⟩
    have e : (if Int.tmod (-(n : Int)) 10 < 0 then ((some (([(wrap64 (48 + (wrap64 (-(Int.tmod (-(n : Int)) 10))))) % 256] : List Int) : List Int)).bind fun y101 => (if (strOfNums y101).size + (strOfNums l).size ≤ 9223372036854775807 then (spec_Dec.l0 q (wrap64 (Int.tdiv (-(n : Int)) 10)) ((strOfNums y101) ++ (strOfNums l)) neg) else (none))) else ((some (([(wrap64 (48 + (Int.tmod (-(n : Int)) 10))) % 256] : List Int) : List Int)).bind fun y104 => (if (strOfNums y104).size + (strOfNums l).size ≤ 9223372036854775807 then (spec_Dec.l0 q (wrap64 (Int.tdiv (-(n : Int)) 10)) ((strOfNums y104) ++ (strOfNums l)) neg) else (none)))) = spec_Dec.l0 q (-((n : Int) / 10)) (strOfNums ([48 + ((n % 10 : Nat) : Int)] ++ l)) neg := by
      rw [tmod_neg _ _ (by omega), tdiv_neg _ _ (by omega), Int.neg_neg, w64 (n := (n : Int) % 10) (by omega) (by omega), w64 (n := 48 + (n : Int) % 10) (by omega) (by omega), w64 (n := -((n : Int) / 10)) (by omega) (by omega), w64 (n := 48 + -((n : Int) % 10)) (by omega) (by omega)]
      simp only [Option.bind_some]
      by_cases h : (n : Int) % 10 = 0
      · rw [if_neg (show ¬ -((n : Int) % 10) < 0 by omega), if_pos (by rw [size_strOfNums, size_strOfNums]; simp; omega), strOfNums_append, show (48 + -((n : Int) % 10)) % 256 = 48 + ((n % 10 : Nat) : Int) by omega]
      · rw [if_pos (show -((n : Int) % 10) < 0 by omega), if_pos (by rw [size_strOfNums, size_strOfNums]; simp; omega), strOfNums_append, show (48 + (n : Int) % 10) % 256 = 48 + ((n % 10 : Nat) : Int) by omega]
    simp only [spec_Dec.l0]
    rw [if_neg (by omega), e]
    by_cases h : n < 10
    · rw [show -((n : Int) / 10) = 0 by omega, show q = (q - 1) + 1 by omega, spec_Dec_end _ _ _ (by simp; omega), decN_lt h, show 48 + ((n % 10 : Nat) : Int) = 48 + (n : Int) by omega]
    · rw [show -((n : Int) / 10) = -((n / 10 : Nat) : Int) by omega, ih q (n / 10) _ neg (by omega) (by rw [pow10] at n1; omega) (by omega) (by simp; omega) (by omega), decN_ge h]
      simp

theorem spec_Dec_f (n : Int) (h0 : -9223372036854775808 ≤ n) (h1 : n ≤ 9223372036854775807) (k : Nat) (hk : 30 < k) : spec_Dec.f k n = some (strOfNums (decM n)) := by
  unfold spec_Dec.f
  have e0 : (⟨#[]⟩ : ByteArray) = strOfNums [] := rfl
  by_cases hz : n = 0
  · rw [if_pos hz, hz]; unfold decM; rw [if_neg (by omega), decN_lt (by decide)]; rfl
  · rw [if_neg hz, e0]
    unfold decM
    by_cases hn : n < 0
    · have := spec_Dec_neg 18 k (-n).toNat [] true (by omega) (by omega) (by omega) (by simp) (by omega)
      rw [show -(((-n).toNat : Nat) : Int) = n by omega] at this
      rw [if_pos hn, decide_eq_true hn, this]
      simp [sgn]
    · have := spec_Dec_pos 18 k n.toNat [] false (by omega) (by omega) (by omega) (by simp) (by omega)
      rw [show ((n.toNat : Nat) : Int) = n by omega] at this
      rw [if_neg hn, decide_eq_false hn, this]
      simp [sgn]

theorem size_decN (n : Nat) (h : n < 10 ^ 20) : (strOfNums (decN n)).size ≤ 20 := by
  rw [size_strOfNums]; exact decN_length 19 n h
theorem str45 : (⟨#[45]⟩ : ByteArray) = strOfNums [45] := by decide

theorem impl_Dec_pos : ∀ (d k n : Nat), n < 10 ^ (d + 1) → n ≤ 9223372036854775807 → 2 * d + 2 < k → impl_Dec.f k (n : Int) = some (strOfNums (decN n)) := by
  intro d
  induction d with
  | zero =>
    intro k n n1 hd hk
    obtain ⟨q, rfl⟩ : ∃ m, k = m + 2 := ⟨k - 2, by omega⟩
    simp only [impl_Dec.f, impl_Dec.j0]
    rw [if_neg (by omega), if_neg (by decide), if_neg (by omega), if_pos (by omega), enc_digit (by omega) (by omega), decN_lt (by omega)]
  | succ d ih =>
    intro k n n1 hd hk
    obtain ⟨q, rfl⟩ : ∃ m, k = m + 2 := ⟨k - 2, by omega⟩
    simp only [impl_Dec.f, impl_Dec.j0]
    rw [if_neg (by omega), if_neg (by decide), if_neg (by omega)]
    by_cases h : n < 10
    · rw [if_pos (by omega), enc_digit (by omega) (by omega), decN_lt h]
    · have hz := size_decN (n / 10) (by omega)
      rw [if_neg (by omega), tdiv_nn (by omega), w64 (n := (n : Int) / 10) (by omega) (by omega), show (n : Int) / 10 = ((n / 10 : Nat) : Int) by omega, ih q (n / 10) (by rw [pow10] at n1; omega) (by omega) (by omega), tmod_nn (by omega), enc_digit (by omega) (by omega)]
      simp only [Option.bind_some]
      rw [if_pos (by rw [size_strOfNums [48 + (n : Int) % 10]]; simp; omega), strOfNums_append, decN_ge h, show 48 + (n : Int) % 10 = 48 + ((n % 10 : Nat) : Int) by omega]

theorem impl_Dec_neg : ∀ (d k n : Nat), 0 < n → n < 10 ^ (d + 1) → n ≤ 9223372036854775808 → 2 * d + 6 < k → impl_Dec.f k (-(n : Int)) = some (strOfNums (45 :: decN n)) := by
  intro d
  induction d with
  | zero =>
    intro k n n0 n1 hd hk
    obtain ⟨q, rfl⟩ : ∃ m, k = m + 2 := ⟨k - 2, by omega⟩
    obtain ⟨q', hq⟩ : ∃ m, q = m + 2 := ⟨q - 2, by omega⟩
    simp only [impl_Dec.f, impl_Dec.j0]
    rw [if_pos (by omega), if_pos (by simp; omega), Int.neg_neg, w64 (n := (n : Int)) (by omega) (by omega), impl_Dec_pos 0 q n (by omega) (by omega) (by omega)]
    simp only [Option.bind_some]
    have hz := size_decN n (by omega)
    rw [if_pos (by omega), str45, strOfNums_append]; rfl
  | succ d ih =>
    intro k n n0 n1 hd hk
    obtain ⟨q, rfl⟩ : ∃ m, k = m + 2 := ⟨k - 2, by omega⟩
    simp only [impl_Dec.f, impl_Dec.j0]
    rw [if_pos (by omega)]
    by_cases h : n < 10
    · rw [if_pos (by simp; omega), Int.neg_neg, w64 (n := (n : Int)) (by omega) (by omega), impl_Dec_pos 0 q n (by omega) (by omega) (by omega)]
      simp only [Option.bind_some]
      have hz := size_decN n (by omega)
      rw [if_pos (by omega), str45, strOfNums_append]; rfl
    · have hz := size_decN (n / 10) (by omega)
      have hz2 : (strOfNums (45 :: decN (n / 10))).size ≤ 21 := by rw [size_strOfNums] at hz ⊢; simp; omega
      rw [if_neg (by simp; omega), if_pos (by omega), tdiv_neg _ _ (by omega), tmod_neg _ _ (by omega), Int.neg_neg, w64 (n := -((n : Int) / 10)) (by omega) (by omega), w64 (n := (n : Int) % 10) (by omega) (by omega), show -((n : Int) / 10) = -((n / 10 : Nat) : Int) by omega, ih q (n / 10) (by omega) (by rw [pow10] at n1; omega) (by omega) (by omega)]
      simp only [Option.bind_some]
      rw [show (n : Int) % 10 = ((n % 10 : Nat) : Int) by omega, impl_Dec_pos 0 q (n % 10) (by omega) (by omega) (by omega)]
      simp only [Option.bind_some]
      have hz3 := size_decN (n % 10) (by omega)
      rw [if_pos (by omega), strOfNums_append, decN_ge h, decN_lt (n := n % 10) (by omega)]; rfl

theorem impl_Dec_f (n : Int) (h0 : -9223372036854775808 ≤ n) (h1 : n ≤ 9223372036854775807) (k : Nat) (hk : 50 < k) : impl_Dec.f k n = some (strOfNums (decM n)) := by
  unfold decM
  by_cases hn : n < 0
  · have := impl_Dec_neg 18 k (-n).toNat (by omega) (by omega) (by omega) (by omega)
    rw [show -(((-n).toNat : Nat) : Int) = n by omega] at this
    rw [if_pos hn, this]
  · have := impl_Dec_pos 18 k n.toNat (by omega) (by omega) (by omega)
    rw [show ((n.toNat : Nat) : Int) = n by omega] at this
    rw [if_neg hn, this]

/-! ReadDec -/
theorem head_bytes {s : ByteArray} (h : 0 < s.size) : (bytesOf s).head? = some (bt s 0) := by
  have := bt_get (s := s) (i := 0) (by omega) (by omega)
  rw [List.head?_eq_getElem?]; exact this

theorem isD_iff (b : Int) : isD b = true ↔ (b ≥ 48 ∧ b ≤ 57) := by simp [isD]

theorem dec_same (v : Int) (s : ByteArray) : (strOfNums (decM v)).toList = s.toList ↔ decM v = bytesOf s := by
  rw [toList_eq_iff]
  constructor
  · intro h; rw [← h, bytesOf_strOfNums (decM_byt v)]
  · intro h; exact bytesOf_inj (by rw [bytesOf_strOfNums (decM_byt v), h])

theorem spec_ReadDec_tail (s : ByteArray) (n c i : Int) (n0 : 0 ≤ n) (n1 : n < 100000000000) (k : Nat) (hk : 40 < k) :
    spec_ReadDec.j1 k s n c i false = some (if c > 9 then (0, false) else if (bytesOf s).length > 10 then (0, false) else chk (if (bytesOf s).head? = some 45 then -n else n) (bytesOf s)) := by
  obtain ⟨k, rfl⟩ : ∃ m, k = m + 2 := ⟨k - 2, by omega⟩
  simp only [spec_ReadDec.j1, spec_ReadDec.j2]
  rw [if_neg (by decide), bytesOf_length]
  have hm : wrap64 (-n) = -n := w64 (by omega) (by omega)
  by_cases hs : (s.size : Int) > 0
  · rw [if_pos hs, if_pos (by omega), head_bytes (by omega)]
    by_cases hb : bt s 0 = 45
    · rw [if_pos (by rw [hb]; rfl), hm, spec_Dec_f _ (by omega) (by omega) _ (by omega)]
      simp only [Option.bind_some, dec_same, chk, hb, if_true]
      by_cases h1 : c > 9
      · rw [if_pos h1, if_pos h1]
      · rw [if_neg h1, if_neg h1]
        by_cases h2 : (s.size : Int) > 10
        · rw [if_pos h2, if_pos (by omega)]
        · rw [if_neg h2, if_neg (show ¬ s.size > 10 by omega)]; split <;> rfl
    · rw [if_neg (by simpa using hb), spec_Dec_f _ (by omega) (by omega) _ (by omega)]
      have hb2 : ¬ (some (bt s 0) = some 45) := by simpa using hb
      simp only [Option.bind_some, dec_same, chk, if_neg hb2]
      by_cases h1 : c > 9
      · rw [if_pos h1, if_pos h1]
      · rw [if_neg h1, if_neg h1]
        by_cases h2 : (s.size : Int) > 10
        · rw [if_pos h2, if_pos (by omega)]
        · rw [if_neg h2, if_neg (show ¬ s.size > 10 by omega)]; split <;> rfl
  · have hl : bytesOf s = [] := List.eq_nil_of_length_eq_zero (by rw [bytesOf_length]; omega)
    rw [if_neg hs, if_neg (by decide), spec_Dec_f _ (by omega) (by omega) _ (by omega)]
    have hb2 : ¬ ((bytesOf s).head? = some 45) := by rw [hl]; simp
    simp only [Option.bind_some, dec_same, chk, if_neg hb2]
    by_cases h1 : c > 9
    · rw [if_pos h1, if_pos h1]
    · rw [if_neg h1, if_neg h1]
      by_cases h2 : (s.size : Int) > 10
      · rw [if_pos h2, if_pos (by omega)]
      · rw [if_neg h2, if_neg (show ¬ s.size > 10 by omega)]; split <;> rfl

theorem cntD_le (l : List Int) : cntD l ≤ l.length := by unfold cntD; have := List.length_filter_le isD l; omega
theorem pow10_le {c : Nat} (h : c ≤ 11) : (10 : Int) ^ c ≤ 100000000000 := by
  have : c = 0 ∨ c = 1 ∨ c = 2 ∨ c = 3 ∨ c = 4 ∨ c = 5 ∨ c = 6 ∨ c = 7 ∨ c = 8 ∨ c = 9 ∨ c = 10 ∨ c = 11 := by omega
  rcases this with rfl | rfl | rfl | rfl | rfl | rfl | rfl | rfl | rfl | rfl | rfl | rfl <;> decide

theorem spec_ReadDec_run (s : ByteArray) : ∀ (d k : Nat) (i : Nat), i + d = 11 → i ≤ s.size → 60 + 2 * d < k →
    spec_ReadDec.l0 k s (valD ((bytesOf s).take i)) (cntD ((bytesOf s).take i)) (i : Int) = some (rdS (bytesOf s)) := by
  intro d
  induction d with
  | zero =>
    intro k i h0 h1 hk
    obtain ⟨k, rfl⟩ : ∃ m, k = m + 1 := ⟨k - 1, by omega⟩
    have hi : i = 11 := by omega
    subst hi
    have b0 := valD_nonneg ((bytesOf s).take 11)
    have b1 := valD_bound ((bytesOf s).take 11)
    have b2 := cntD_le ((bytesOf s).take 11)
    have b3 : ((bytesOf s).take 11).length ≤ 11 := List.length_take_le _ _
    have b4 := pow10_le (c := (cntD ((bytesOf s).take 11)).toNat) (by omega)
    simp only [spec_ReadDec.l0]
    by_cases hs : ((11 : Nat) : Int) < (s.size : Int)
    · rw [if_pos hs, decide_eq_false (by omega), spec_ReadDec_tail s _ _ _ b0 (by omega) k (by omega)]; rfl
    · rw [if_neg hs, spec_ReadDec_tail s _ _ _ b0 (by omega) k (by omega)]; rfl
  | succ d ih =>
    intro k i h0 h1 hk
    obtain ⟨k, rfl⟩ : ∃ m, k = m + 2 := ⟨k - 2, by omega⟩
    have b0 := valD_nonneg ((bytesOf s).take i)
    have b1 := valD_bound ((bytesOf s).take i)
    have b2 := cntD_le ((bytesOf s).take i)
    have b3 : ((bytesOf s).take i).length ≤ i := List.length_take_le _ _
    have b4 := pow10_le (c := (cntD ((bytesOf s).take i)).toNat) (by omega)
    have b5 := cntD_nonneg ((bytesOf s).take i)
    obtain ⟨q, hq⟩ : ∃ q, k + 1 = q := ⟨_, rfl⟩
    rw [show k + 2 = q + 1 by omega]
    simp only [spec_ReadDec.l0]
    by_cases hs : (i : Int) < (s.size : Int)
    · rw [if_pos hs, decide_eq_true (show (i : Int) < 11 by omega), ← hq]
      obtain ⟨c0, c1⟩ := bt_range s (i : Int)
      have ht := bt_take (s := s) (i := (i : Int)) (by omega) hs
      rw [show ((i : Int)).toNat = i by omega] at ht
      have e1 : (i : Int) + 1 = ((i + 1 : Nat) : Int) := by omega
      have ih' := ih k (i + 1) (by omega) (by omega) (by omega)
      rw [ht, valD_snoc, cntD_snoc] at ih'
      simp only [spec_ReadDec.j1]
      rw [if_pos trivial, if_pos (by omega), if_pos hs, w64 (n := (i : Int) + 1) (by omega) (by omega), e1]
      by_cases g1 : bt s (i : Int) ≥ 48
      · rw [if_pos g1]
        by_cases g2 : bt s (i : Int) ≤ 57
        · have hd : isD (bt s (i : Int)) = true := (isD_iff _).2 ⟨g1, g2⟩
          rw [if_pos hd, if_pos hd] at ih'
          rw [if_pos g2, w64 (n := _ * 10) (by omega) (by omega), show (bt s (i : Int) - 48) % 256 = bt s (i : Int) - 48 by omega, w64 (n := _ + (bt s (i : Int) - 48)) (by omega) (by omega), w64 (n := cntD _ + 1) (by omega) (by omega)]
          exact ih'
        · have hd : ¬ isD (bt s (i : Int)) = true := fun h => g2 ((isD_iff _).1 h).2
          rw [if_neg hd, if_neg hd] at ih'
          rw [if_neg g2]; exact ih'
      · have hd : ¬ isD (bt s (i : Int)) = true := fun h => g1 ((isD_iff _).1 h).1
        rw [if_neg hd, if_neg hd] at ih'
        rw [if_neg g1]; exact ih'
    · rw [if_neg hs]
      have hl : (bytesOf s).length = i := by rw [bytesOf_length]; omega
      rw [List.take_of_length_le (by omega)] at b0 b1 b2 b4 b5 ⊢
      have e : (bytesOf s).take 11 = bytesOf s := List.take_of_length_le (by omega)
      rw [spec_ReadDec_tail s _ _ _ b0 (by omega) q (by omega)]
      unfold rdS
      rw [e]

theorem spec_ReadDec_f (s : ByteArray) (k : Nat) (hk : 100 < k) : spec_ReadDec.f k s = some (rdS (bytesOf s)) := by
  unfold spec_ReadDec.f
  exact spec_ReadDec_run s 11 k 0 (by omega) (by omega) (by omega)

theorem dec_sameI (v : Int) (s : ByteArray) : (strOfNums (decM v)).toList = s.toList ↔ decM v = bytesOf s := by
  rw [toList_eq_iff]
  constructor
  · intro h; rw [← h, bytesOf_strOfNums (decM_byt v)]
  · intro h; exact bytesOf_inj (by rw [bytesOf_strOfNums (decM_byt v), h])
theorem pow10_leI {c : Nat} (h : c ≤ 9) : (10 : Int) ^ c ≤ 1000000000 := by
  have : c = 0 ∨ c = 1 ∨ c = 2 ∨ c = 3 ∨ c = 4 ∨ c = 5 ∨ c = 6 ∨ c = 7 ∨ c = 8 ∨ c = 9 := by omega
  rcases this with rfl | rfl | rfl | rfl | rfl | rfl | rfl | rfl | rfl | rfl <;> decide
theorem cntD_leI (l : List Int) : cntD l ≤ l.length := by unfold cntD; have := List.length_filter_le isD l; omega

theorem impl_ReadDec_run (s t : ByteArray) (ht9 : t.size ≤ 9) : ∀ (d k : Nat) (i : Nat), i + d = t.size → (∀ x ∈ (bytesOf t).take i, isD x = true) → 70 + d < k →
    impl_ReadDec.l0 k s t (valD ((bytesOf t).take i)) (t.size : Int) (i : Int) = some (if (bytesOf t).all isD = true then
      chk (if (t.size : Int) < (s.size : Int) then -valD (bytesOf t) else valD (bytesOf t)) (bytesOf s) else (0, false)) := by
  intro d
  induction d with
  | zero =>
    intro k i h0 h1 hk
    obtain ⟨k, rfl⟩ : ∃ m, k = m + 1 := ⟨k - 1, by omega⟩
    have b0 := valD_nonneg (bytesOf t)
    have b1 := valD_bound (bytesOf t)
    have b2 := cntD_leI (bytesOf t)
    rw [bytesOf_length] at b2
    have b4 := pow10_leI (c := (cntD (bytesOf t)).toNat) (by omega)
    have e : (bytesOf t).take i = bytesOf t := List.take_of_length_le (by rw [bytesOf_length]; omega)
    rw [e] at h1 ⊢
    simp only [impl_ReadDec.l0]
    rw [if_neg (by omega), if_pos (List.all_eq_true.2 h1)]
    by_cases hlt : (t.size : Int) < (s.size : Int)
    · rw [if_pos hlt, w64 (n := -valD (bytesOf t)) (by omega) (by omega), impl_Dec_f _ (by omega) (by omega) _ (by omega)]
      simp only [Option.bind_some, dec_sameI, chk, if_pos hlt]
      split <;> rfl
    · rw [if_neg hlt, impl_Dec_f _ (by omega) (by omega) _ (by omega)]
      simp only [Option.bind_some, dec_sameI, chk, if_neg hlt]
      split <;> rfl
  | succ d ih =>
    intro k i h0 h1 hk
    obtain ⟨k, rfl⟩ : ∃ m, k = m + 1 := ⟨k - 1, by omega⟩
    have b0 := valD_nonneg ((bytesOf t).take i)
    have b1 := valD_bound ((bytesOf t).take i)
    have b2 := cntD_leI ((bytesOf t).take i)
    have b3 : ((bytesOf t).take i).length ≤ i := List.length_take_le _ _
    have b4 := pow10_leI (c := (cntD ((bytesOf t).take i)).toNat) (by omega)
    have hs : (i : Int) < (t.size : Int) := by omega
    obtain ⟨c0, c1⟩ := bt_range t (i : Int)
    have ht := bt_take (s := t) (i := (i : Int)) (by omega) hs
    rw [show ((i : Int)).toNat = i by omega] at ht
    have hmem : bt t (i : Int) ∈ bytesOf t := by
      have := bt_get (s := t) (i := (i : Int)) (by omega) hs
      exact List.mem_of_getElem? this
    simp only [impl_ReadDec.l0]
    rw [if_pos hs, if_pos (by omega), if_pos hs]
    by_cases g1 : bt t (i : Int) < 48
    · rw [if_pos g1, if_neg]
      intro h
      have := List.all_eq_true.1 h _ hmem
      simp [isD] at this; omega
    · rw [if_neg g1]
      by_cases g2 : bt t (i : Int) > 57
      · rw [if_pos g2, if_neg]
        intro h
        have := List.all_eq_true.1 h _ hmem
        simp [isD] at this; omega
      · have hd : isD (bt t (i : Int)) = true := by simp [isD]; omega
        have ih' := ih k (i + 1) (by omega) (by
          rw [ht]; intro x hx
          rcases List.mem_append.1 hx with hx | hx
          · exact h1 x hx
          · rw [List.mem_singleton.1 hx]; exact hd) (by omega)
        rw [ht, valD_snoc, if_pos hd] at ih'
        rw [if_neg g2, w64 (n := (i : Int) + 1) (by omega) (by omega), w64 (n := 10 * _) (by omega) (by omega), show (bt t (i : Int) - 48) % 256 = bt t (i : Int) - 48 by omega, w64 (n := _ + (bt t (i : Int) - 48)) (by omega) (by omega), show (i : Int) + 1 = ((i + 1 : Nat) : Int) by omega, show 10 * valD ((bytesOf t).take i) = valD ((bytesOf t).take i) * 10 by omega]
        exact ih'

theorem impl_ReadDec_j1 (s t : ByteArray) (k : Nat) (hk : 100 < k) : impl_ReadDec.j1 k s t = some (if bytesOf t = [] ∨ (bytesOf t).length > 9 then (0, false) else if (bytesOf t).all isD = true then
      chk (if (bytesOf t).length < (bytesOf s).length then -valD (bytesOf t) else valD (bytesOf t)) (bytesOf s) else (0, false)) := by
  obtain ⟨k, rfl⟩ : ∃ m, k = m + 2 := ⟨k - 2, by omega⟩
  have he : t.toList = ([] : List UInt8) ↔ bytesOf t = [] := by
    rw [ByteArray.toList_eq]; unfold bytesOf; simp
  simp only [impl_ReadDec.j1, impl_ReadDec.j2, he]
  by_cases h0 : bytesOf t = []
  · rw [if_pos h0, if_pos trivial, if_pos (.inl h0)]
  · rw [if_neg h0]
    by_cases h9 : (t.size : Int) > 9
    · rw [if_pos (by simpa using h9), if_pos (.inr (by rw [bytesOf_length]; omega))]
    · rw [if_neg (by simpa using h9), if_neg (by rw [bytesOf_length]; rintro (h | h); exact h0 h; omega)]
      have := impl_ReadDec_run s t (by omega) t.size k 0 (by omega) (by simp) (by omega)
      rw [show valD ((bytesOf t).take 0) = 0 from rfl] at this
      rw [bytesOf_length, bytesOf_length]
      have e : ((t.size : Int) < (s.size : Int)) ↔ (t.size < s.size) := by omega
      simp only [e] at this
      exact this

theorem impl_ReadDec_f (s : ByteArray) (k : Nat) (hk : 110 < k) : impl_ReadDec.f k s = some (rdI (bytesOf s)) := by
  obtain ⟨k, rfl⟩ : ∃ m, k = m + 1 := ⟨k - 1, by omega⟩
  have he : s.toList = ([] : List UInt8) ↔ bytesOf s = [] := by
    rw [ByteArray.toList_eq]; unfold bytesOf; simp
  unfold impl_ReadDec.f
  simp only [impl_ReadDec.j0, he]
  by_cases h0 : bytesOf s = []
  · rw [if_pos h0, if_neg (by decide), impl_ReadDec_j1 s s k (by omega)]
    unfold rdI tlI
    rw [h0]; rfl
  · have hp : 0 < s.size := by
      have : (bytesOf s).length ≠ 0 := fun h => h0 (List.eq_nil_of_length_eq_zero h)
      rw [bytesOf_length] at this; omega
    have hh : (bytesOf s).head? = some (bt s 0) := by
      have := bt_get (s := s) (i := 0) (by omega) (by omega)
      rw [List.head?_eq_getElem?]; exact this
    rw [if_neg h0, if_pos (by omega)]
    unfold rdI tlI
    by_cases hb : bt s 0 = 45
    · have e : bytesOf (s.extract 1 s.size) = (bytesOf s).tail := by
        rw [bytesOf_extract, List.take_of_length_le (by rw [bytesOf_length]; omega), List.drop_one]
      rw [if_pos (by rw [hb]; rfl), if_pos (by omega), impl_ReadDec_j1 s _ k (by omega), e, hh, hb, if_pos rfl]
    · rw [if_neg (by simpa using hb), impl_ReadDec_j1 s s k (by omega), hh, if_neg (show ¬ some (bt s 0) = some 45 by simpa using hb)]

theorem FnExactReadDec : laws_FnExactReadDec.Pure := by
  intro s hs
  refine ⟨120, ?_⟩
  unfold laws_FnExactReadDec.f
  split
  · rfl
  · rw [spec_ReadDec_f s 120 (by omega), impl_ReadDec_f s 120 (by omega), rdS_eq_rdI]; simp

end Go.Proofs.Ytkmhjhbodocadaa.Pure
