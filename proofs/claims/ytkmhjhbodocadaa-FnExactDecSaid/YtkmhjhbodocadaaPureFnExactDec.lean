/- FnExactDec: for every number the program's Dec returns what the reference's returns. -/
import Derived.Test.YtkmhjhbodocadaaPFnExactDecx1
import Derived.Test.YtkmhjhbodocadaaBase
import Derived.Test.YtkmhjhbodocadaaNumDec
namespace Go.Proofs.Ytkmhjhbodocadaa.Pure
open Go.RowKit Go.Proofs.Ytkmhjhbodocadaa.PFnExactDec Go.Proofs.YtkmhjhbodocadaaW.PrintWords Go.Proofs.YtkmhjhbodocadaaW.PrintLast Go.Proofs.YtkmhjhbodocadaaW.PrintMore Go.Proofs.Ytkmhjhbodocadaa.Base
set_option linter.unusedVariables false
set_option linter.unusedSimpArgs false

/-! Dec -/
def sgn (neg : Bool) : List Int := if neg then [45] else []
theorem strOf45 : (⟨#[45]⟩ : ByteArray) = strOfNums [45] := by decide

theorem spec_Dec_end (k : Nat) (l : List Int) (neg : Bool) (hl : l.length < 100) : spec_Dec.l0 (k + 1) 0 (strOfNums l) neg = some (strOfNums (sgn neg ++ l)) := by
  simp only [spec_Dec.l0]
  rw [if_pos trivial]
  cases neg
  · rfl
  · rw [if_pos rfl, if_pos (by rw [size_strOfNums]; omega), strOf45, strOfNums_append]; rfl

theorem spec_Dec_pos : ∀ (d k n : Nat) (l : List Int) (neg : Bool), 0 < n → n < 10 ^ (d + 1) → n ≤ 9223372036854775807 → l.length + d < 90 → d + 1 < k →
    spec_Dec.l0 k (n : Int) (strOfNums l) neg = some (strOfNums (sgn neg ++ (decN n ++ l))) := by
  intro d
  induction d with
  | zero =>
    intro k n l neg n0 n1 hd hl hk
    obtain ⟨q, rfl⟩ : ∃ m, k = m + 1 := ⟨k - 1, by omega⟩
    simp only [spec_Dec.l0]
    rw [if_neg (by omega), tmod_nn (by omega), tdiv_nn (by omega), if_neg (by omega), w64 (n := 48 + (n : Int) % 10) (by omega) (by omega), w64 (n := (n : Int) / 10) (by omega) (by omega)]
    simp only [Option.bind_some]
    rw [if_pos (by rw [size_strOfNums, size_strOfNums]; simp; omega), strOfNums_append, show (n : Int) / 10 = 0 by omega, show q = (q - 1) + 1 by omega, spec_Dec_end _ _ _ (by simp; omega), decN_lt (by omega), show (48 + (n : Int) % 10) % 256 = 48 + (n : Int) by omega]
  | succ d ih =>
    intro k n l neg n0 n1 hd hl hk
    obtain ⟨q, rfl⟩ : ∃ m, k = m + 1 := ⟨k - 1, by omega⟩
    simp only [spec_Dec.l0]
    rw [if_neg (by omega), tmod_nn (by omega), tdiv_nn (by omega), if_neg (by omega), w64 (n := 48 + (n : Int) % 10) (by omega) (by omega), w64 (n := (n : Int) / 10) (by omega) (by omega)]
    simp only [Option.bind_some]
    rw [if_pos (by rw [size_strOfNums, size_strOfNums]; simp; omega), strOfNums_append]
    by_cases h : n < 10
    · rw [show (n : Int) / 10 = 0 by omega, show q = (q - 1) + 1 by omega, spec_Dec_end _ _ _ (by simp; omega), decN_lt h, show (48 + (n : Int) % 10) % 256 = 48 + (n : Int) by omega]
    · rw [show (n : Int) / 10 = ((n / 10 : Nat) : Int) by omega, ih q (n / 10) _ neg (by omega) (by rw [pow10] at n1; omega) (by omega) (by simp; omega) (by omega), decN_ge h, show (48 + (n : Int) % 10) % 256 = 48 + ((n % 10 : Nat) : Int) by omega]
      simp

theorem spec_Dec_neg : ∀ (d k n : Nat) (l : List Int) (neg : Bool), 0 < n → n < 10 ^ (d + 1) → n ≤ 9223372036854775808 → l.length + d < 90 → d + 1 < k →
    spec_Dec.l0 k (-(n : Int)) (strOfNums l) neg = some (strOfNums (sgn neg ++ (decN n ++ l))) := by
  intro d
  induction d with
  | zero =>
    intro k n l neg n0 n1 hd hl hk
    obtain ⟨q, rfl⟩ : ∃ m, k = m + 1 := ⟨k - 1, by omega⟩
    simp only [spec_Dec.l0]
    rw [if_neg (by omega), tmod_neg _ _ (by omega), tdiv_neg _ _ (by omega), if_pos (by omega), Int.neg_neg, w64 (n := (n : Int) % 10) (by omega) (by omega), w64 (n := 48 + (n : Int) % 10) (by omega) (by omega), w64 (n := -((n : Int) / 10)) (by omega) (by omega)]
    simp only [Option.bind_some]
    rw [if_pos (by rw [size_strOfNums, size_strOfNums]; simp; omega), strOfNums_append, show -((n : Int) / 10) = 0 by omega, show q = (q - 1) + 1 by omega, spec_Dec_end _ _ _ (by simp; omega), decN_lt (by omega), show (48 + (n : Int) % 10) % 256 = 48 + (n : Int) by omega]
  | succ d ih =>
    intro k n l neg n0 n1 hd hl hk
    obtain ⟨q, rfl⟩ : ∃ m, k = m + 1 := ⟨k - 1, by omega⟩
    have e : (if Int.tmod (-(n : Int)) 10 < 0 then ((some (([(wrap64 (48 + (wrap64 (-(Int.tmod (-(n : Int)) 10))))) % 256] : List Int) : List Int)).bind fun y101 => (if (strOfNums y101).size + (strOfNums l).size ≤ 9223372036854775807 then (spec_Dec.l0 q (wrap64 (Int.tdiv (-(n : Int)) 10)) ((strOfNums y101) ++ (strOfNums l)) neg) else (none))) else ((some (([(wrap64 (48 + (Int.tmod (-(n : Int)) 10))) % 256] : List Int) : List Int)).bind fun y104 => (if (strOfNums y104).size + (strOfNums l).size ≤ 9223372036854775807 then (spec_Dec.l0 q (wrap64 (Int.tdiv (-(n : Int)) 10)) ((strOfNums y104) ++ (strOfNums l)) neg) else (none)))) = spec_Dec.l0 q (-((n : Int) / 10)) (strOfNums ([48 + ((n % 10 : Nat) : Int)] ++ l)) neg := by
      rw [tmod_neg _ _ (by omega), tdiv_neg _ _ (by omega), Int.neg_neg, w64 (n := (n : Int) % 10) (by omega) (by omega), w64 (n := 48 + (n : Int) % 10) (by omega) (by omega), w64 (n := -((n : Int) / 10)) (by omega) (by omega), w64 (n := 48 + -((n : Int) % 10)) (by omega) (by omega)]
      simp only [Option.bind_some]
      by_cases h : (n : Int) % 10 = 0
      · rw [if_neg (show ¬ -((n : Int) % 10) < 0 by omega), if_pos (by rw [size_strOfNums, size_strOfNums]; simp; omega), strOfNums_append, show (48 + -((n : Int) % 10)) % 256 = 48 + ((n % 10 : Nat) : Int) by omega]
      · rw [if_pos (show -((n : Int) % 10) < 0 by omega), if_pos (by rw [size_strOfNums, size_strOfNums]; simp; omega), strOfNums_append, show (48 + (n : Int) % 10) % 256 = 48 + ((n % 10 : Nat) : Int) by omega]
    simp only [spec_Dec.l0]
    rw [if_neg (by omega), e]
    by_cases h : n < 10
    · rw [show -((n : Int) / 10) = 0 by omega, show q = (q - 1) + 1 by omega, spec_Dec_end _ _ _ (by simp; omega), decN_lt h, show 48 + ((n % 10 : Nat) : Int) = 48 + (n : Int) by omega]
    · rw [show -((n : Int) / 10) = -((n / 10 : Nat) : Int) by omega, ih q (n / 10) _ neg (by omega) (by rw [pow10] at n1; omega) (by omega) (by simp; omega) (by omega), decN_ge h]
      simp

theorem spec_Dec_f (n : Int) (h0 : -9223372036854775808 ≤ n) (h1 : n ≤ 9223372036854775807) (k : Nat) (hk : 30 < k) : spec_Dec.f k n = some (strOfNums (decM n)) := by
  unfold spec_Dec.f
  have e0 : (⟨#[]⟩ : ByteArray) = strOfNums [] := rfl
  by_cases hz : n = 0
  · rw [if_pos hz, hz]; unfold decM; rw [if_neg (by omega), decN_lt (by decide)]; rfl
  · rw [if_neg hz, e0]
    unfold decM
    by_cases hn : n < 0
    · have := spec_Dec_neg 18 k (-n).toNat [] true (by omega) (by omega) (by omega) (by simp) (by omega)
      rw [show -(((-n).toNat : Nat) : Int) = n by omega] at this
      rw [if_pos hn, decide_eq_true hn, this]
      simp [sgn]
    · have := spec_Dec_pos 18 k n.toNat [] false (by omega) (by omega) (by omega) (by simp) (by omega)
      rw [show ((n.toNat : Nat) : Int) = n by omega] at this
      rw [if_neg hn, decide_eq_false hn, this]
      simp [sgn]

theorem size_decN (n : Nat) (h : n < 10 ^ 20) : (strOfNums (decN n)).size ≤ 20 := by
  rw [size_strOfNums]; exact decN_length 19 n h
theorem str45 : (⟨#[45]⟩ : ByteArray) = strOfNums [45] := by decide

theorem impl_Dec_pos : ∀ (d k n : Nat), n < 10 ^ (d + 1) → n ≤ 9223372036854775807 → 2 * d + 2 < k → impl_Dec.f k (n : Int) = some (strOfNums (decN n)) := by
  intro d
  induction d with
  | zero =>
    intro k n n1 hd hk
    obtain ⟨q, rfl⟩ : ∃ m, k = m + 2 := ⟨k - 2, by omega⟩
    simp only [impl_Dec.f, impl_Dec.j0]
    rw [if_neg (by omega), if_neg (by decide), if_neg (by omega), if_pos (by omega), enc_digit (by omega) (by omega), decN_lt (by omega)]
  | succ d ih =>
    intro k n n1 hd hk
    obtain ⟨q, rfl⟩ : ∃ m, k = m + 2 := ⟨k - 2, by omega⟩
    simp only [impl_Dec.f, impl_Dec.j0]
    rw [if_neg (by omega), if_neg (by decide), if_neg (by omega)]
    by_cases h : n < 10
    · rw [if_pos (by omega), enc_digit (by omega) (by omega), decN_lt h]
    · have hz := size_decN (n / 10) (by omega)
      rw [if_neg (by omega), tdiv_nn (by omega), w64 (n := (n : Int) / 10) (by omega) (by omega), show (n : Int) / 10 = ((n / 10 : Nat) : Int) by omega, ih q (n / 10) (by rw [pow10] at n1; omega) (by omega) (by omega), tmod_nn (by omega), enc_digit (by omega) (by omega)]
      simp only [Option.bind_some]
      rw [if_pos (by rw [size_strOfNums [48 + (n : Int) % 10]]; simp; omega), strOfNums_append, decN_ge h, show 48 + (n : Int) % 10 = 48 + ((n % 10 : Nat) : Int) by omega]

theorem impl_Dec_neg : ∀ (d k n : Nat), 0 < n → n < 10 ^ (d + 1) → n ≤ 9223372036854775808 → 2 * d + 6 < k → impl_Dec.f k (-(n : Int)) = some (strOfNums (45 :: decN n)) := by
  intro d
  induction d with
  | zero =>
    intro k n n0 n1 hd hk
    obtain ⟨q, rfl⟩ : ∃ m, k = m + 2 := ⟨k - 2, by omega⟩
    obtain ⟨q', hq⟩ : ∃ m, q = m + 2 := ⟨q - 2, by omega⟩
    simp only [impl_Dec.f, impl_Dec.j0]
    rw [if_pos (by omega), if_pos (by simp; omega), Int.neg_neg, w64 (n := (n : Int)) (by omega) (by omega), impl_Dec_pos 0 q n (by omega) (by omega) (by omega)]
    simp only [Option.bind_some]
    have hz := size_decN n (by omega)
    rw [if_pos (by omega), str45, strOfNums_append]; rfl
  | succ d ih =>
    intro k n n0 n1 hd hk
    obtain ⟨q, rfl⟩ : ∃ m, k = m + 2 := ⟨k - 2, by omega⟩
    simp only [impl_Dec.f, impl_Dec.j0]
    rw [if_pos (by omega)]
    by_cases h : n < 10
    · rw [if_pos (by simp; omega), Int.neg_neg, w64 (n := (n : Int)) (by omega) (by omega), impl_Dec_pos 0 q n (by omega) (by omega) (by omega)]
      simp only [Option.bind_some]
      have hz := size_decN n (by omega)
      rw [if_pos (by omega), str45, strOfNums_append]; rfl
    · have hz := size_decN (n / 10) (by omega)
      have hz2 : (strOfNums (45 :: decN (n / 10))).size ≤ 21 := by rw [size_strOfNums] at hz ⊢; simp; omega
      rw [if_neg (by simp; omega), if_pos (by omega), tdiv_neg _ _ (by omega), tmod_neg _ _ (by omega), Int.neg_neg, w64 (n := -((n : Int) / 10)) (by omega) (by omega), w64 (n := (n : Int) % 10) (by omega) (by omega), show -((n : Int) / 10) = -((n / 10 : Nat) : Int) by omega, ih q (n / 10) (by omega) (by rw [pow10] at n1; omega) (by omega) (by omega)]
      simp only [Option.bind_some]
      rw [show (n : Int) % 10 = ((n % 10 : Nat) : Int) by omega, impl_Dec_pos 0 q (n % 10) (by omega) (by omega) (by omega)]
      simp only [Option.bind_some]
      have hz3 := size_decN (n % 10) (by omega)
      rw [if_pos (by omega), strOfNums_append, decN_ge h, decN_lt (n := n % 10) (by omega)]; rfl

theorem impl_Dec_f (n : Int) (h0 : -9223372036854775808 ≤ n) (h1 : n ≤ 9223372036854775807) (k : Nat) (hk : 50 < k) : impl_Dec.f k n = some (strOfNums (decM n)) := by
  unfold decM
  by_cases hn : n < 0
  · have := impl_Dec_neg 18 k (-n).toNat (by omega) (by omega) (by omega) (by omega)
    rw [show -(((-n).toNat : Nat) : Int) = n by omega] at this
    rw [if_pos hn, this]
  · have := impl_Dec_pos 18 k n.toNat (by omega) (by omega) (by omega)
    rw [show ((n.toNat : Nat) : Int) = n by omega] at this
    rw [if_neg hn, this]

theorem FnExactDec : laws_FnExactDec.Pure := by
  intro n hn
  obtain ⟨h0, h1⟩ := wf64 hn
  refine ⟨60, ?_⟩
  unfold laws_FnExactDec.f
  rw [spec_Dec_f n h0 h1 60 (by omega), impl_Dec_f n h0 h1 60 (by omega)]; simp

end Go.Proofs.Ytkmhjhbodocadaa.Pure
