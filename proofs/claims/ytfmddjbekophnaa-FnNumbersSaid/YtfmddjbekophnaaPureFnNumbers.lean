/- Numbers are read back from their texts. -/
import Derived.Test.YtfmddjbekophnaaPFnNumbersx1
import Derived.Test.YtfmddjbekophnaaPFnNumbersx2
import Derived.Test.YtfmddjbekophnaaPFnNumbersx3
import Derived.Test.YtfmddjbekophnaaPFnNumbersx4
import Derived.Test.YtfmddjbekophnaaPFnNumbersx5
import Derived.Test.YtfmddjbekophnaaPFnNumbersx6
import Derived.Test.YtfmddjbekophnaaBase
import Derived.Test.YtfmddjbekophnaaNum
import Derived.Test.YtfmddjbekophnaaNumDec
import Derived.Test.YtfmddjbekophnaaNumReadDec
import Derived.Test.YtfmddjbekophnaaNumRec
import Derived.Test.YtfmddjbekophnaaNumBits
namespace Go.Proofs.Ytfmddjbekophnaa.Pure
open Go.RowKit Go.Proofs.Ytfmddjbekophnaa.PFnNumbers Go.Proofs.YtfmddjbekophnaaW.PrintWords Go.Proofs.YtfmddjbekophnaaW.PrintLast Go.Proofs.YtfmddjbekophnaaW.PrintMore Go.Proofs.Ytfmddjbekophnaa.Base
set_option linter.unusedVariables false
set_option linter.unusedSimpArgs false

/-! ranges -/
theorem spec_l1In_run (a b c : Int) : spec_l1In.f a b c = some (decide (b ≤ a ∧ a ≤ c)) := by
  unfold spec_l1In.f
  by_cases h : a ≥ b
  · rw [if_pos h]; congr 1; simp [show b ≤ a from h]
  · rw [if_neg h]; congr 1; simp; omega

theorem impl_from_run (a b c : Int) : impl_from.f a b c = some (decide (b ≤ a ∧ a ≤ c)) := by
  unfold impl_from.f
  by_cases h : a ≥ b
  · rw [if_pos h]; congr 1; simp [show b ≤ a from h]
  · rw [if_neg h]; congr 1; simp; omega

/-! Var -/
theorem spec_Var_run : ∀ (d k n : Nat) (xs : List Int), n < 128 ^ (d + 1) → d ≤ 7 → xs.length + d < 100 → d < k →
    spec_Var.l0 k (n : Int) xs = some (strOfNums (xs ++ varN n)) := by
  intro d
  induction d with
  | zero =>
    intro k n xs h0 h7 h1 hk
    obtain ⟨k, rfl⟩ : ∃ m, k = m + 1 := ⟨k - 1, by omega⟩
    simp only [spec_Var.l0]
    rw [if_neg (by omega), if_pos (by omega), varN_lt (by omega), show (n : Int) % 256 = n by omega]
  | succ d ih =>
    intro k n xs h0 h7 h1 hk
    obtain ⟨k, rfl⟩ : ∃ m, k = m + 1 := ⟨k - 1, by omega⟩
    simp only [spec_Var.l0]
    have hb : n < 128 ^ 9 := Nat.lt_of_lt_of_le h0 (Nat.pow_le_pow_right (by omega) (by omega))
    by_cases h : n < 128
    · rw [if_neg (by omega), if_pos (by omega), varN_lt h, show (n : Int) % 256 = n by omega]
    · rw [if_pos (by omega), if_pos (by omega), varN_ge h, tdiv_nn (by omega), tmod_nn (by omega), w64 (n := (n : Int) / 128) (by omega) (by omega), w64 (n := 128 + (n : Int) % 128) (by omega) (by omega)]
      have e : (n : Int) / 128 = ((n / 128 : Nat) : Int) := by omega
      rw [e, ih k (n / 128) _ (by rw [pow128] at h0; omega) (by omega) (by simp; omega) (by omega)]
      have e2 : (128 + (n : Int) % 128) % 256 = ((n % 128 + 128 : Nat) : Int) := by omega
      rw [e2]; simp

theorem spec_Var_f (n : Int) (k : Nat) (hk : 8 < k) : spec_Var.f k n = some (strOfNums (varM n)) := by
  unfold spec_Var.f varM
  rw [spec_l1In_run]; simp only [Option.bind_some, decide_eq_true_eq]
  by_cases h : 0 ≤ n ∧ n ≤ 562949953421311
  · rw [if_pos h, if_pos h]
    have := spec_Var_run 6 k n.toNat [] (by omega) (by omega) (by simp) (by omega)
    rw [show ((n.toNat : Nat) : Int) = n by omega] at this
    rw [this]; rfl
  · rw [if_neg h, if_neg h]; rfl

theorem impl_Var_run : ∀ (d k n : Nat) (xs : List Int), n < 128 ^ (d + 1) → d ≤ 7 → xs.length + d < 100 → d < k →
    impl_Var.l0 k (n : Int) xs = some (strOfNums (xs ++ varN n)) := by
  intro d
  induction d with
  | zero =>
    intro k n xs h0 h7 h1 hk
    obtain ⟨k, rfl⟩ : ∃ m, k = m + 1 := ⟨k - 1, by omega⟩
    simp only [impl_Var.l0]
    rw [if_neg (by omega), if_pos (by omega), varN_lt (by omega), show (n : Int) % 256 = n by omega]
  | succ d ih =>
    intro k n xs h0 h7 h1 hk
    obtain ⟨k, rfl⟩ : ∃ m, k = m + 1 := ⟨k - 1, by omega⟩
    simp only [impl_Var.l0]
    have hb : n < 128 ^ 9 := Nat.lt_of_lt_of_le h0 (Nat.pow_le_pow_right (by omega) (by omega))
    by_cases h : n < 128
    · rw [if_neg (by omega), if_pos (by omega), varN_lt h, show (n : Int) % 256 = n by omega]
    · rw [if_pos (by omega), if_pos (by omega), varN_ge h, tdiv_nn (by omega), tmod_nn (by omega), w64 (n := (n : Int) / 128) (by omega) (by omega), w64 (n := (n : Int) % 128 + 128) (by omega) (by omega)]
      have e : (n : Int) / 128 = ((n / 128 : Nat) : Int) := by omega
      rw [e, ih k (n / 128) _ (by rw [pow128] at h0; omega) (by omega) (by simp; omega) (by omega)]
      have e2 : ((n : Int) % 128 + 128) % 256 = ((n % 128 + 128 : Nat) : Int) := by omega
      rw [e2]; simp

theorem impl_Var_f (n : Int) (k : Nat) (hk : 8 < k) : impl_Var.f k n = some (strOfNums (varM n)) := by
  unfold impl_Var.f varM
  rw [impl_from_run]; simp only [Option.bind_some, decide_eq_true_eq]
  by_cases h : 0 ≤ n ∧ n ≤ 562949953421311
  · rw [if_pos h, if_pos h]
    have := impl_Var_run 6 k n.toNat [] (by omega) (by omega) (by simp) (by omega)
    rw [show ((n.toNat : Nat) : Int) = n by omega] at this
    rw [this]; rfl
  · rw [if_neg h, if_neg h]; rfl

/-! ReadVar -/
theorem varN_cons_ge {b : Int} {t : List Int} (hb : Byt (b :: t)) (h : b ≥ 128) (ht : varN (le7 t) = t) (hne : le7 t ≠ 0) : varN (le7 (b :: t)) = b :: t := by
  obtain ⟨⟨h0, h1⟩, _⟩ := byt_cons.1 hb
  rw [le7, varN_ge (by omega)]
  congr 1
  · omega
  · rw [show ((b % 128).toNat + 128 * le7 t) / 128 = le7 t by omega, ht]

/-- The text of a number: all bytes but the last are 128 or more, the last is below 128 and, behind another, not 0. -/
theorem varN_shape (n : Nat) : ∃ (a : List Int) (c : Int), varN n = a ++ [c] ∧ (∀ x ∈ a, x ≥ 128) ∧ c < 128 ∧ (a = [] ∨ c ≠ 0) := by
  induction n using Nat.strongRecOn with
  | _ n ih =>
    by_cases h : n < 128
    · exact ⟨[], (n : Int), by rw [varN_lt h]; rfl, by simp, by omega, .inl rfl⟩
    · obtain ⟨a, c, h1, h2, h3, h4⟩ := ih (n / 128) (by omega)
      refine ⟨((n % 128 + 128 : Nat) : Int) :: a, c, by rw [varN_ge h, h1]; rfl, ?_, h3, .inr ?_⟩
      · intro x hx
        rcases List.mem_cons.1 hx with rfl | hx
        · omega
        · exact h2 x hx
      · rcases h4 with rfl | h4
        · have h5 : varN (n / 128) = [c] := h1
          have h6 := le7_varN (n / 128)
          rw [h5] at h6
          intro hc
          rw [hc] at h6
          simp [le7] at h6
          omega
        · exact h4

theorem varN_back : ∀ (a : List Int) (c : Int), Byt (a ++ [c]) → (∀ x ∈ a, x ≥ 128) → c < 128 → (a = [] ∨ c ≠ 0) → varN (le7 (a ++ [c])) = a ++ [c]
  | [], c, hb, _, hc, _ => by
    obtain ⟨⟨h0, h1⟩, _⟩ := byt_cons.1 hb
    have : le7 ([] ++ [c]) = c.toNat := by simp [le7]; omega
    rw [this, varN_lt (by omega)]
    simp; omega
  | b :: a, c, hb, ha, hc, h0 => by
    have hc0 : c ≠ 0 := by rcases h0 with h0 | h0; · cases h0
                           · exact h0
    have hb2 := (byt_cons.1 hb).2
    have ih := varN_back a c hb2 (fun x hx => ha x (List.mem_cons_of_mem _ hx)) hc (.inr hc0)
    refine varN_cons_ge hb (ha b (List.mem_cons_self)) ih (fun h => ?_)
    have h7 : varN 0 = a ++ [c] := by rw [← h]; exact ih
    rw [varN_lt (by omega)] at h7
    cases a with
    | nil => simp at h7; omega
    | cons x y => simp at h7

theorem snoc_inj {a a' : List Int} {c c' : Int} (h : a ++ [c] = a' ++ [c']) : a = a' ∧ c = c' := by
  have := List.append_inj' h rfl
  exact ⟨this.1, by simpa using this.2⟩

/-- le7 over the bytes from behind, as the reference reads them. -/
theorem le7_snoc : ∀ (l : List Int) (b : Int), le7 (l ++ [b]) = le7 l + 128 ^ l.length * (b % 128).toNat
  | [], b => by simp [le7]
  | x :: l, b => by
    rw [List.cons_append, le7, le7_snoc l b, le7, List.length_cons, pow128, Nat.mul_add]
    have : 128 * (128 ^ l.length * (b % 128).toNat) = 128 ^ l.length * 128 * (b % 128).toNat := by
      rw [← Nat.mul_assoc, Nat.mul_comm 128 (128 ^ l.length)]
    omega

/-- Some byte ahead of the last is below 128: no text of a number begins so. -/

theorem pow128i (d : Nat) : (128 : Int) ^ (d + 1) = 128 ^ d * 128 := Int.pow_succ 128 d
theorem mul_pow_le {b p q : Int} (b0 : 0 ≤ b) (b1 : b ≤ 127) (hp : 0 ≤ p) (hq : p ≤ q) : 0 ≤ b * p ∧ b * p ≤ 127 * q := by
  refine ⟨Int.mul_nonneg b0 hp, ?_⟩
  exact Int.le_trans (Int.mul_le_mul_of_nonneg_right b1 hp) (by omega)
theorem impl_ReadVar_run (s : ByteArray) : ∀ (d k : Nat) (i n : Int), 0 ≤ i → i + d = 7 → 0 ≤ n → n < 128 ^ i.toNat → 2 * d + 2 < k →
    impl_ReadVar.l0 k s n i = some (rv ((bytesOf s).drop i.toNat) i.toNat n) := by
  intro d
  induction d with
  | zero =>
    intro k i n h0 h1 n0 n1 hk
    obtain ⟨k, rfl⟩ : ∃ m, k = m + 2 := ⟨k - 2, by omega⟩
    simp only [impl_ReadVar.l0]
    rw [if_neg (by omega)]
    simp only [impl_ReadVar.j1]
    cases (bytesOf s).drop i.toNat with
    | nil => rfl
    | cons b t => rw [rv, if_neg (show ¬ i.toNat < 7 by omega)]; rfl
  | succ d ih =>
    intro k i n h0 h1 n0 n1 hk
    obtain ⟨k, rfl⟩ : ∃ m, k = m + 2 := ⟨k - 2, by omega⟩
    simp only [impl_ReadVar.l0]
    rw [if_pos (by omega)]
    simp only [impl_ReadVar.j1, decide_eq_true_eq]
    by_cases hs : i < (s.size : Int)
    · obtain ⟨c0, c1⟩ := bt_range s i
      have hp : (0 : Int) < 128 ^ i.toNat := Int.pow_pos (by omega)
      have hq : (128 : Int) ^ i.toNat ≤ 4398046511104 := by
        have h : i = 0 ∨ i = 1 ∨ i = 2 ∨ i = 3 ∨ i = 4 ∨ i = 5 ∨ i = 6 := by omega
        rcases h with rfl | rfl | rfl | rfl | rfl | rfl | rfl <;> decide
      obtain ⟨m0, m1⟩ := mul_pow_le (b := bt s i % 128) (by omega) (by omega) (Int.le_of_lt hp) (Int.le_refl _)
      rw [if_pos hs, if_pos h0, if_pos hs, w64 (n := 7 * i) (by omega) (by omega), if_pos (by omega), tmod_nn c0, w64 (n := bt s i % 128) (by omega) (by omega), shl7 (by omega) (by omega) h0 (by omega), w64 (n := n + _) (by omega) (by omega), w64 (n := i + 1) (by omega) (by omega), bt_drop h0 hs, rv, if_pos (show i.toNat < 7 by omega)]
      by_cases hhi : bt s i ≥ 128
      · rw [if_pos hhi, if_pos hhi, ih _ _ _ (by omega) (by omega) (by omega) (by rw [show (i + 1).toNat = i.toNat + 1 by omega, pow128i]; omega) (by omega), show (i + 1).toNat = i.toNat + 1 by omega]
      · rw [if_neg hhi, if_neg hhi]
        have e1 : i + 1 = ((i.toNat + 1 : Nat) : Int) := by omega
        have e2 : i + 1 = ((i.toNat : Nat) : Int) + 1 := by omega
        by_cases hz : bt s i = 0
        · rw [if_pos hz]
          by_cases hi : i > 0
          · rw [if_pos hi, if_pos ⟨hz, by omega⟩]
          · rw [if_neg hi, if_neg (by omega), e2]
        · rw [if_neg hz, if_neg (by omega), e2]
    · rw [if_neg hs, List.drop_of_length_le (by rw [bytesOf_length]; omega)]; rfl

theorem impl_ReadVar_f (s : ByteArray) (k : Nat) (hk : 20 < k) : impl_ReadVar.f k s = some (rv (bytesOf s) 0 0) := by
  unfold impl_ReadVar.f
  exact impl_ReadVar_run s 7 k 0 0 (by omega) (by omega) (by omega) (by decide) (by omega)

/-! What reading a number comes to, at a place of a text -/
theorem rv_bound : ∀ (l : List Int) (i : Nat) (n : Int), Byt l → 0 ≤ n → n < 128 ^ i → i ≤ 7 → 0 ≤ (rv l i n).1 ∧ (rv l i n).1 < 562949953421312 ∧ 0 ≤ (rv l i n).2 ∧ (rv l i n).2 ≤ (i : Int) + l.length ∧ (rv l i n).2 ≤ 7
  | [], i, n, _, _, _, _ => by simp [rv]
  | b :: t, i, n, hb, h0, h1, hi => by
    obtain ⟨⟨b0, b1⟩, ht⟩ := byt_cons.1 hb
    unfold rv
    by_cases h7 : i < 7
    · rw [if_pos h7]
      have hp : (0 : Int) < 128 ^ i := Int.pow_pos (by omega)
      have hm0 : 0 ≤ b % 128 * 128 ^ i := Int.mul_nonneg (by omega) (by omega)
      have hm1 : b % 128 * 128 ^ i ≤ 127 * 128 ^ i := Int.mul_le_mul_of_nonneg_right (by omega) (by omega)
      have hs : (128 : Int) ^ (i + 1) = 128 ^ i * 128 := Int.pow_succ 128 i
      have hp7 : (128 : Int) ^ (i + 1) ≤ 562949953421312 := by
        have : i = 0 ∨ i = 1 ∨ i = 2 ∨ i = 3 ∨ i = 4 ∨ i = 5 ∨ i = 6 := by omega
        rcases this with rfl | rfl | rfl | rfl | rfl | rfl | rfl <;> decide
      generalize b % 128 * 128 ^ i = X at *
      split
      · have := rv_bound t (i + 1) (n + X) ht (by omega) (by omega) (by omega)
        rw [List.length_cons]
        omega
      · split
        · simp; omega
        · simp only [List.length_cons]; omega
    · rw [if_neg h7]; simp; omega

def rvx (s : ByteArray) (o : Int) : Int × Int := rv (bytesOf (s.extract o.toNat s.size)) 0 0
theorem rvx_bound (s : ByteArray) (o : Int) (h0 : 0 ≤ o) (h1 : o ≤ (s.size : Int)) : 0 ≤ (rvx s o).1 ∧ (rvx s o).1 < 562949953421312 ∧ 0 ≤ (rvx s o).2 ∧ o + (rvx s o).2 ≤ (s.size : Int) ∧ (rvx s o).2 ≤ 7 := by
  have := rv_bound (bytesOf (s.extract o.toNat s.size)) 0 0 (byt_bytesOf _) (by omega) (by simp) (by omega)
  have e : (bytesOf (s.extract o.toNat s.size)).length = s.size - o.toNat := by rw [bytesOf_length, ByteArray.size_extract]; omega
  rw [e] at this
  unfold rvx
  omega
theorem extract_all (s : ByteArray) : s.extract 0 s.size = s := bytesOf_inj (by rw [bytesOf_extract, List.drop_zero, List.take_of_length_le (by rw [bytesOf_length]; omega)])
theorem extract_rest (s : ByteArray) (a b : Nat) (ha : a ≤ s.size) : (s.extract a s.size).extract b (s.extract a s.size).size = s.extract (a + b) s.size := bytesOf_inj (by
  have e : (s.extract a s.size).size = s.size - a := by rw [ByteArray.size_extract]; omega
  rw [bytesOf_extract, bytesOf_extract, bytesOf_extract, e]
  have e2 : (bytesOf s).take s.size = bytesOf s := List.take_of_length_le (by rw [bytesOf_length]; omega)
  rw [e2, List.take_of_length_le (by rw [List.length_drop, bytesOf_length]; omega), List.drop_drop])

/-! fixed widths: what both sides use -/
def fixM (n w : Int) : List Int := if 1 ≤ w ∧ w ≤ 7 ∧ 0 ≤ n ∧ n < 256 ^ w.toNat then fixL w.toNat n else []
def rdFixM (s : ByteArray) (w : Int) : Int × Bool := if 1 ≤ w ∧ w ≤ 7 ∧ w ≤ (s.size : Int) then (be ((bytesOf s).take w.toNat), true) else (0, false)

theorem be_step {s : ByteArray} {i : Int} (h0 : 0 ≤ i) (h1 : i < (s.size : Int)) (h7 : i < 7) :
    be ((bytesOf s).take (i.toNat + 1)) = be ((bytesOf s).take i.toNat) * 256 + bt s i ∧ 0 ≤ be ((bytesOf s).take i.toNat) ∧ be ((bytesOf s).take i.toNat) < 281474976710656 := by
  refine ⟨by rw [bt_take h0 h1, be_snoc], ?_⟩
  obtain ⟨a, b⟩ := be_bound ((bytesOf s).take i.toNat) (byt_take (byt_bytesOf s) _)
  refine ⟨a, Int.lt_of_lt_of_le b ?_⟩
  have : ((bytesOf s).take i.toNat).length ≤ 6 := by rw [List.length_take]; omega
  exact Int.le_trans (pow256_le this) (show (256 : Int) ^ 6 ≤ 281474976710656 by decide)


theorem impl_Fixed_run (n : Int) : ∀ (d k : Nat) (xs : List Int), d ≤ 7 → xs.length + d < 100 → d < k →
    impl_Fixed.l0 k n xs ((d : Int) - 1) = some (strOfNums (xs ++ fixL d n)) := by
  intro d
  induction d with
  | zero =>
    intro k xs h7 hx hk
    obtain ⟨k, rfl⟩ : ∃ m, k = m + 1 := ⟨k - 1, by omega⟩
    simp only [impl_Fixed.l0]
    rw [if_neg (by omega)]; simp [fixL]
  | succ d ih =>
    intro k xs h7 hx hk
    obtain ⟨k, rfl⟩ : ∃ m, k = m + 1 := ⟨k - 1, by omega⟩
    simp only [impl_Fixed.l0]
    rw [show ((d + 1 : Nat) : Int) - 1 = (d : Int) by omega, if_pos (by omega), w64 (n := 8 * (d : Int)) (by omega) (by omega), if_pos (by omega), if_pos (by omega), w64 (n := (d : Int) - 1) (by omega) (by omega), shr8 n (by omega) (by omega), ih k _ (by omega) (by simp; omega) (by omega), fixL_cons]
    simp

theorem impl_Fixed_f (n w : Int) (k : Nat) (hk : 8 < k) : impl_Fixed.f k n w = some (strOfNums (fixM n w)) := by
  unfold impl_Fixed.f fixM
  rw [impl_from_run]; simp only [Option.bind_some, decide_eq_true_eq]
  obtain ⟨k, rfl⟩ : ∃ m, k = m + 1 := ⟨k - 1, by omega⟩
  by_cases h : 1 ≤ w ∧ w ≤ 7
  · rw [if_pos h]
    by_cases h2 : n < 0
    · rw [if_pos h2, if_neg (by omega)]; simp only [impl_Fixed.j0]; rfl
    · rw [if_neg h2, w64 (n := 8 * w) (by omega) (by omega), if_pos (by omega), shr8 n (by omega) (by omega)]
      have hp := pow256_pos w.toNat
      simp only [impl_Fixed.j0, bne_iff_ne, ne_eq]
      by_cases h3 : n < 256 ^ w.toNat
      · have hc : 1 ≤ w ∧ w ≤ 7 ∧ 0 ≤ n ∧ n < 256 ^ w.toNat := ⟨h.1, h.2, by omega, h3⟩
        rw [if_pos hc, Int.ediv_eq_zero_of_lt (by omega) h3, if_neg (by simp), w64 (n := w - 1) (by omega) (by omega)]
        have := impl_Fixed_run n w.toNat k [] (by omega) (by simp; omega) (by omega)
        rw [show ((w.toNat : Nat) : Int) - 1 = w - 1 by omega] at this
        rw [this]; simp
      · have hc : ¬ (1 ≤ w ∧ w ≤ 7 ∧ 0 ≤ n ∧ n < 256 ^ w.toNat) := fun hc => h3 hc.2.2.2
        have hd := div_ge_one hp (show 256 ^ w.toNat ≤ n by omega)
        rw [if_neg hc, if_pos (by omega)]; rfl
  · rw [if_neg h, if_neg (by omega)]
    simp only [impl_Fixed.j0]; rfl

theorem impl_ReadFixed_run (s : ByteArray) (w : Int) (hw : w ≤ 7) (hs : w ≤ (s.size : Int)) : ∀ (d k : Nat) (i : Int), 0 ≤ i → i + d = w → d < k →
    impl_ReadFixed.l0 k s (be ((bytesOf s).take i.toNat)) w i = some (be ((bytesOf s).take w.toNat), true) := by
  intro d
  induction d with
  | zero =>
    intro k i h0 h1 hk
    obtain ⟨k, rfl⟩ : ∃ m, k = m + 1 := ⟨k - 1, by omega⟩
    simp only [impl_ReadFixed.l0]
    rw [if_neg (by omega), show i = w by omega]
  | succ d ih =>
    intro k i h0 h1 hk
    obtain ⟨k, rfl⟩ : ∃ m, k = m + 1 := ⟨k - 1, by omega⟩
    obtain ⟨e, b0, b1⟩ := be_step (s := s) h0 (by omega) (by omega)
    obtain ⟨c0, c1⟩ := bt_range s i
    simp only [impl_ReadFixed.l0]
    rw [if_pos (by omega), if_pos h0, if_pos (by omega), w64 (n := bt s i) (by omega) (by omega), w64 (n := _ * 256) (by omega) (by omega), or_low b0 (by omega) (by omega) (by omega), w64 (n := i + 1) (by omega) (by omega), ← e]
    have := ih k (i + 1) (by omega) (by omega) (by omega)
    rwa [show (i + 1).toNat = i.toNat + 1 by omega] at this

theorem impl_ReadFixed_f (s : ByteArray) (w : Int) (k : Nat) (hk : 8 < k) : impl_ReadFixed.f k s w = some (rdFixM s w) := by
  unfold impl_ReadFixed.f rdFixM
  rw [impl_from_run]; simp only [Option.bind_some, decide_eq_true_eq]
  obtain ⟨k, rfl⟩ : ∃ m, k = m + 1 := ⟨k - 1, by omega⟩
  by_cases h : 1 ≤ w ∧ w ≤ 7
  · rw [if_pos h]
    simp only [impl_ReadFixed.j0, decide_eq_true_eq]
    by_cases h2 : (s.size : Int) < w
    · rw [if_pos h2, if_neg (by omega)]
    · rw [if_neg h2, if_pos (by omega)]
      have := impl_ReadFixed_run s w h.2 (by omega) w.toNat k 0 (by omega) (by omega) (by omega)
      exact this
  · rw [if_neg h, if_neg (by omega)]
    simp only [impl_ReadFixed.j0]; rfl

theorem size_decN (n : Nat) (h : n < 10 ^ 20) : (strOfNums (decN n)).size ≤ 20 := by
  rw [size_strOfNums]; exact decN_length 19 n h
theorem str45 : (⟨#[45]⟩ : ByteArray) = strOfNums [45] := by decide

theorem impl_Dec_pos : ∀ (d k n : Nat), n < 10 ^ (d + 1) → n ≤ 9223372036854775807 → 2 * d + 2 < k → impl_Dec.f k (n : Int) = some (strOfNums (decN n)) := by
  intro d
  induction d with
  | zero =>
    intro k n n1 hd hk
    obtain ⟨q, rfl⟩ : ∃ m, k = m + 2 := ⟨k - 2, by omega⟩
    simp only [impl_Dec.f, impl_Dec.j0]
    rw [if_neg (by omega), if_neg (by decide), if_neg (by omega), if_pos (by omega), enc_digit (by omega) (by omega), decN_lt (by omega)]
  | succ d ih =>
    intro k n n1 hd hk
    obtain ⟨q, rfl⟩ : ∃ m, k = m + 2 := ⟨k - 2, by omega⟩
    simp only [impl_Dec.f, impl_Dec.j0]
    rw [if_neg (by omega), if_neg (by decide), if_neg (by omega)]
    by_cases h : n < 10
    · rw [if_pos (by omega), enc_digit (by omega) (by omega), decN_lt h]
    · have hz := size_decN (n / 10) (by omega)
      rw [if_neg (by omega), tdiv_nn (by omega), w64 (n := (n : Int) / 10) (by omega) (by omega), show (n : Int) / 10 = ((n / 10 : Nat) : Int) by omega, ih q (n / 10) (by rw [pow10] at n1; omega) (by omega) (by omega), tmod_nn (by omega), enc_digit (by omega) (by omega)]
      simp only [Option.bind_some]
      rw [if_pos (by rw [size_strOfNums [48 + (n : Int) % 10]]; simp; omega), strOfNums_append, decN_ge h, show 48 + (n : Int) % 10 = 48 + ((n % 10 : Nat) : Int) by omega]

theorem impl_Dec_neg : ∀ (d k n : Nat), 0 < n → n < 10 ^ (d + 1) → n ≤ 9223372036854775808 → 2 * d + 6 < k → impl_Dec.f k (-(n : Int)) = some (strOfNums (45 :: decN n)) := by
  intro d
  induction d with
  | zero =>
    intro k n n0 n1 hd hk
    obtain ⟨q, rfl⟩ : ∃ m, k = m + 2 := ⟨k - 2, by omega⟩
    obtain ⟨q', hq⟩ : ∃ m, q = m + 2 := ⟨q - 2, by omega⟩
    simp only [impl_Dec.f, impl_Dec.j0]
    rw [if_pos (by omega), if_pos (by simp; omega), Int.neg_neg, w64 (n := (n : Int)) (by omega) (by omega), impl_Dec_pos 0 q n (by omega) (by omega) (by omega)]
    simp only [Option.bind_some]
    have hz := size_decN n (by omega)
    rw [if_pos (by omega), str45, strOfNums_append]; rfl
  | succ d ih =>
    intro k n n0 n1 hd hk
    obtain ⟨q, rfl⟩ : ∃ m, k = m + 2 := ⟨k - 2, by omega⟩
    simp only [impl_Dec.f, impl_Dec.j0]
    rw [if_pos (by omega)]
    by_cases h : n < 10
    · rw [if_pos (by simp; omega), Int.neg_neg, w64 (n := (n : Int)) (by omega) (by omega), impl_Dec_pos 0 q n (by omega) (by omega) (by omega)]
      simp only [Option.bind_some]
      have hz := size_decN n (by omega)
      rw [if_pos (by omega), str45, strOfNums_append]; rfl
    · have hz := size_decN (n / 10) (by omega)
      have hz2 : (strOfNums (45 :: decN (n / 10))).size ≤ 21 := by rw [size_strOfNums] at hz ⊢; simp; omega
      rw [if_neg (by simp; omega), if_pos (by omega), tdiv_neg _ _ (by omega), tmod_neg _ _ (by omega), Int.neg_neg, w64 (n := -((n : Int) / 10)) (by omega) (by omega), w64 (n := (n : Int) % 10) (by omega) (by omega), show -((n : Int) / 10) = -((n / 10 : Nat) : Int) by omega, ih q (n / 10) (by omega) (by rw [pow10] at n1; omega) (by omega) (by omega)]
      simp only [Option.bind_some]
      rw [show (n : Int) % 10 = ((n % 10 : Nat) : Int) by omega, impl_Dec_pos 0 q (n % 10) (by omega) (by omega) (by omega)]
      simp only [Option.bind_some]
      have hz3 := size_decN (n % 10) (by omega)
      rw [if_pos (by omega), strOfNums_append, decN_ge h, decN_lt (n := n % 10) (by omega)]; rfl

theorem impl_Dec_f (n : Int) (h0 : -9223372036854775808 ≤ n) (h1 : n ≤ 9223372036854775807) (k : Nat) (hk : 50 < k) : impl_Dec.f k n = some (strOfNums (decM n)) := by
  unfold decM
  by_cases hn : n < 0
  · have := impl_Dec_neg 18 k (-n).toNat (by omega) (by omega) (by omega) (by omega)
    rw [show -(((-n).toNat : Nat) : Int) = n by omega] at this
    rw [if_pos hn, this]
  · have := impl_Dec_pos 18 k n.toNat (by omega) (by omega) (by omega)
    rw [show ((n.toNat : Nat) : Int) = n by omega] at this
    rw [if_neg hn, this]

theorem dec_sameI (v : Int) (s : ByteArray) : (strOfNums (decM v)).toList = s.toList ↔ decM v = bytesOf s := by
  rw [toList_eq_iff]
  constructor
  · intro h; rw [← h, bytesOf_strOfNums (decM_byt v)]
  · intro h; exact bytesOf_inj (by rw [bytesOf_strOfNums (decM_byt v), h])
theorem pow10_leI {c : Nat} (h : c ≤ 9) : (10 : Int) ^ c ≤ 1000000000 := by
  have : c = 0 ∨ c = 1 ∨ c = 2 ∨ c = 3 ∨ c = 4 ∨ c = 5 ∨ c = 6 ∨ c = 7 ∨ c = 8 ∨ c = 9 := by omega
  rcases this with rfl | rfl | rfl | rfl | rfl | rfl | rfl | rfl | rfl | rfl <;> decide
theorem cntD_leI (l : List Int) : cntD l ≤ l.length := by unfold cntD; have := List.length_filter_le isD l; omega

theorem impl_ReadDec_run (s t : ByteArray) (ht9 : t.size ≤ 9) : ∀ (d k : Nat) (i : Nat), i + d = t.size → (∀ x ∈ (bytesOf t).take i, isD x = true) → 70 + d < k →
    impl_ReadDec.l0 k s t (valD ((bytesOf t).take i)) (t.size : Int) (i : Int) = some (if (bytesOf t).all isD = true then
      chk (if (t.size : Int) < (s.size : Int) then -valD (bytesOf t) else valD (bytesOf t)) (bytesOf s) else (0, false)) := by
  intro d
  induction d with
  | zero =>
    intro k i h0 h1 hk
    obtain ⟨k, rfl⟩ : ∃ m, k = m + 1 := ⟨k - 1, by omega⟩
    have b0 := valD_nonneg (bytesOf t)
    have b1 := valD_bound (bytesOf t)
    have b2 := cntD_leI (bytesOf t)
    rw [bytesOf_length] at b2
    have b4 := pow10_leI (c := (cntD (bytesOf t)).toNat) (by omega)
    have e : (bytesOf t).take i = bytesOf t := List.take_of_length_le (by rw [bytesOf_length]; omega)
    rw [e] at h1 ⊢
    simp only [impl_ReadDec.l0]
    rw [if_neg (by omega), if_pos (List.all_eq_true.2 h1)]
    by_cases hlt : (t.size : Int) < (s.size : Int)
    · rw [if_pos hlt, w64 (n := -valD (bytesOf t)) (by omega) (by omega), impl_Dec_f _ (by omega) (by omega) _ (by omega)]
      simp only [Option.bind_some, dec_sameI, chk, if_pos hlt]
      split <;> rfl
    · rw [if_neg hlt, impl_Dec_f _ (by omega) (by omega) _ (by omega)]
      simp only [Option.bind_some, dec_sameI, chk, if_neg hlt]
      split <;> rfl
  | succ d ih =>
    intro k i h0 h1 hk
    obtain ⟨k, rfl⟩ : ∃ m, k = m + 1 := ⟨k - 1, by omega⟩
    have b0 := valD_nonneg ((bytesOf t).take i)
    have b1 := valD_bound ((bytesOf t).take i)
    have b2 := cntD_leI ((bytesOf t).take i)
    have b3 : ((bytesOf t).take i).length ≤ i := List.length_take_le _ _
    have b4 := pow10_leI (c := (cntD ((bytesOf t).take i)).toNat) (by omega)
    have hs : (i : Int) < (t.size : Int) := by omega
    obtain ⟨c0, c1⟩ := bt_range t (i : Int)
    have ht := bt_take (s := t) (i := (i : Int)) (by omega) hs
    rw [show ((i : Int)).toNat = i by omega] at ht
    have hmem : bt t (i : Int) ∈ bytesOf t := by
      have := bt_get (s := t) (i := (i : Int)) (by omega) hs
      exact List.mem_of_getElem? this
    simp only [impl_ReadDec.l0]
    rw [if_pos hs, if_pos (by omega), if_pos hs]
    by_cases g1 : bt t (i : Int) < 48
    · rw [if_pos g1, if_neg]
      intro h
      have := List.all_eq_true.1 h _ hmem
      simp [isD] at this; omega
    · rw [if_neg g1]
      by_cases g2 : bt t (i : Int) > 57
      · rw [if_pos g2, if_neg]
        intro h
        have := List.all_eq_true.1 h _ hmem
        simp [isD] at this; omega
      · have hd : isD (bt t (i : Int)) = true := by simp [isD]; omega
        have ih' := ih k (i + 1) (by omega) (by
          rw [ht]; intro x hx
          rcases List.mem_append.1 hx with hx | hx
          · exact h1 x hx
          · rw [List.mem_singleton.1 hx]; exact hd) (by omega)
        rw [ht, valD_snoc, if_pos hd] at ih'
        rw [if_neg g2, w64 (n := (i : Int) + 1) (by omega) (by omega), w64 (n := 10 * _) (by omega) (by omega), show (bt t (i : Int) - 48) % 256 = bt t (i : Int) - 48 by omega, w64 (n := _ + (bt t (i : Int) - 48)) (by omega) (by omega), show (i : Int) + 1 = ((i + 1 : Nat) : Int) by omega, show 10 * valD ((bytesOf t).take i) = valD ((bytesOf t).take i) * 10 by omega]
        exact ih'

theorem impl_ReadDec_j1 (s t : ByteArray) (k : Nat) (hk : 100 < k) : impl_ReadDec.j1 k s t = some (if bytesOf t = [] ∨ (bytesOf t).length > 9 then (0, false) else if (bytesOf t).all isD = true then
      chk (if (bytesOf t).length < (bytesOf s).length then -valD (bytesOf t) else valD (bytesOf t)) (bytesOf s) else (0, false)) := by
  obtain ⟨k, rfl⟩ : ∃ m, k = m + 2 := ⟨k - 2, by omega⟩
  have he : t.toList = ([] : List UInt8) ↔ bytesOf t = [] := by
    rw [ByteArray.toList_eq]; unfold bytesOf; simp
  simp only [impl_ReadDec.j1, impl_ReadDec.j2, he]
  by_cases h0 : bytesOf t = []
  · rw [if_pos h0, if_pos trivial, if_pos (.inl h0)]
  · rw [if_neg h0]
    by_cases h9 : (t.size : Int) > 9
    · rw [if_pos (by simpa using h9), if_pos (.inr (by rw [bytesOf_length]; omega))]
    · rw [if_neg (by simpa using h9), if_neg (by rw [bytesOf_length]; rintro (h | h); exact h0 h; omega)]
      have := impl_ReadDec_run s t (by omega) t.size k 0 (by omega) (by simp) (by omega)
      rw [show valD ((bytesOf t).take 0) = 0 from rfl] at this
      rw [bytesOf_length, bytesOf_length]
      have e : ((t.size : Int) < (s.size : Int)) ↔ (t.size < s.size) := by omega
      simp only [e] at this
      exact this

theorem impl_ReadDec_f (s : ByteArray) (k : Nat) (hk : 110 < k) : impl_ReadDec.f k s = some (rdI (bytesOf s)) := by
  obtain ⟨k, rfl⟩ : ∃ m, k = m + 1 := ⟨k - 1, by omega⟩
  have he : s.toList = ([] : List UInt8) ↔ bytesOf s = [] := by
    rw [ByteArray.toList_eq]; unfold bytesOf; simp
  unfold impl_ReadDec.f
  simp only [impl_ReadDec.j0, he]
  by_cases h0 : bytesOf s = []
  · rw [if_pos h0, if_neg (by decide), impl_ReadDec_j1 s s k (by omega)]
    unfold rdI tlI
    rw [h0]; rfl
  · have hp : 0 < s.size := by
      have : (bytesOf s).length ≠ 0 := fun h => h0 (List.eq_nil_of_length_eq_zero h)
      rw [bytesOf_length] at this; omega
    have hh : (bytesOf s).head? = some (bt s 0) := by
      have := bt_get (s := s) (i := 0) (by omega) (by omega)
      rw [List.head?_eq_getElem?]; exact this
    rw [if_neg h0, if_pos (by omega)]
    unfold rdI tlI
    by_cases hb : bt s 0 = 45
    · have e : bytesOf (s.extract 1 s.size) = (bytesOf s).tail := by
        rw [bytesOf_extract, List.take_of_length_le (by rw [bytesOf_length]; omega), List.drop_one]
      rw [if_pos (by rw [hb]; rfl), if_pos (by omega), impl_ReadDec_j1 s _ k (by omega), e, hh, hb, if_pos rfl]
    · rw [if_neg (by simpa using hb), impl_ReadDec_j1 s s k (by omega), hh, if_neg (show ¬ some (bt s 0) = some 45 by simpa using hb)]

/-! hexadecimal -/
def hexD : ByteArray := ⟨#[48, 49, 50, 51, 52, 53, 54, 55, 56, 57, 97, 98, 99, 100, 101, 102]⟩
def hexB (b : Int) : List Int := [bt hexD (b / 16), bt hexD (b % 16)]
def hexL : List Int → List Int
  | [] => []
  | b :: l => hexB b ++ hexL l

theorem and15 {b : Int} (h0 : 0 ≤ b) (h1 : b ≤ 255) : Go.bits .and .u8 b 15 = b % 16 := by
  have h : ∀ n : Fin 256, Go.bits .and .u8 (n.val : Int) 15 = (n.val : Int) % 16 := by decide +kernel
  have := h ⟨b.toNat, by omega⟩
  simpa [Int.toNat_of_nonneg h0] using this

theorem impl_Hex_run (s : ByteArray) (hs : s.size ≤ 1048576) : ∀ (d k : Nat) (i : Int) (xs : List Int), 0 ≤ i → i + d = s.size → xs.length + 2 * d < 140737488355328 → d < k →
    impl_Hex.l0 k s xs (s.size : Int) i = some (strOfNums (xs ++ hexL ((bytesOf s).drop i.toNat))) := by
  intro d
  induction d with
  | zero =>
    intro k i xs h0 h1 h2 hk
    obtain ⟨k, rfl⟩ : ∃ m, k = m + 1 := ⟨k - 1, by omega⟩
    simp only [impl_Hex.l0]
    rw [if_neg (by omega), List.drop_of_length_le (by rw [bytesOf_length]; omega)]
    simp [hexL]
  | succ d ih =>
    intro k i xs h0 h1 h2 hk
    obtain ⟨k, rfl⟩ : ∃ m, k = m + 1 := ⟨k - 1, by omega⟩
    have hlt : i < (s.size : Int) := by omega
    obtain ⟨b0, b1⟩ := bt_range s i
    have e1 : Go.bits .and .u8 (bt s i) 15 = bt s i % 16 := and15 b0 b1
    have e4 : wrap64 (i + 1) = i + 1 := w64 (by omega) (by omega)
    simp only [impl_Hex.l0]
    rw [if_pos hlt, if_pos h0, if_pos hlt, e1, if_pos (by omega), if_pos (by omega), if_pos (by omega), if_pos (by omega)]
    simp only [Option.bind_some]
    rw [if_pos (by simp; omega), e4, ih k (i + 1) _ (by omega) (by omega) (by simp; omega) (by omega), bt_drop h0 hlt, show (i + 1).toNat = i.toNat + 1 by omega]
    simp [hexL, hexB, hexD]

theorem impl_Hex_f (s : ByteArray) (hs : s.size ≤ 1048576) (k : Nat) (hk : s.size < k) : impl_Hex.f k s = some (strOfNums (hexL (bytesOf s))) := by
  unfold impl_Hex.f; rw [impl_Hex_run s hs s.size k 0 [] (by omega) (by omega) (by simp; omega) hk]; simp

/-! Unhex -/
def unhexM (s : ByteArray) : ByteArray × Bool := if (s.size : Int) % 2 = 1 then (⟨#[]⟩, false) else match unhexL (bytesOf s) with
  | none => (⟨#[]⟩, false)
  | some r => (strOfNums r, true)

theorem unhexL_map (c : Int) (t : List Int) (xs : List Int) (e : ByteArray) : (match (unhexL t).map (fun r => c :: r) with | none => (e, false) | some r => (strOfNums (xs ++ r), true)) = (match unhexL t with | none => (e, false) | some r => (strOfNums ((xs ++ [c]) ++ r), true)) := by
  cases unhexL t <;> simp


theorem impl_hexV {c : Int} (c0 : 0 ≤ c) (c1 : c ≤ 255) (k : Nat) (hk : 17 ≤ k) : impl_hexDigit.f k c = some (hexV c) := by
  have h : ∀ n : Fin 256, impl_hexDigit.f 17 (n.val : Int) = some (hexV (n.val : Int)) := by decide +kernel
  have := h ⟨c.toNat, by omega⟩
  rw [show (((⟨c.toNat, by omega⟩ : Fin 256).val : Nat) : Int) = c by simp; omega] at this
  exact at_rounds (g := fun k => impl_hexDigit.f k c) (fun k => impl_hexDigit.mono c k) hk this

theorem impl_Unhex_run (s : ByteArray) (hs : s.size ≤ 1048576) : ∀ (d k : Nat) (i : Int) (xs : List Int), 0 ≤ i → i + 2 * d = s.size → xs.length + d < 140737488355328 → d + 20 < k →
    impl_Unhex.l0 k s xs i = some (match unhexL ((bytesOf s).drop i.toNat) with | none => (⟨#[]⟩, false) | some r => (strOfNums (xs ++ r), true)) := by
  intro d
  induction d with
  | zero =>
    intro k i xs h0 h1 h2 hk
    obtain ⟨k, rfl⟩ : ∃ m, k = m + 1 := ⟨k - 1, by omega⟩
    simp only [impl_Unhex.l0]
    rw [if_neg (by omega), List.drop_of_length_le (by rw [bytesOf_length]; omega)]
    simp [unhexL]
  | succ d ih =>
    intro k i xs h0 h1 h2 hk
    obtain ⟨k, rfl⟩ : ∃ m, k = m + 1 := ⟨k - 1, by omega⟩
    have hlt : i < (s.size : Int) := by omega
    have hlt2 : i + 1 < (s.size : Int) := by omega
    obtain ⟨b0, b1⟩ := bt_range s i
    obtain ⟨d0, d1⟩ := bt_range s (i + 1)
    obtain ⟨v0, v1⟩ := hexV_range (bt s i)
    obtain ⟨u0, u1⟩ := hexV_range (bt s (i + 1))
    have hdr := bt_drop h0 hlt
    have hdr2 := bt_drop (i := i + 1) (by omega) hlt2
    rw [show (i + 1).toNat = i.toNat + 1 by omega] at hdr2
    simp only [impl_Unhex.l0]
    rw [if_pos hlt, if_pos h0, impl_hexV b0 b1 _ (by omega)]
    simp only [Option.bind_some]
    rw [w64 (n := i + 1) (by omega) (by omega), if_pos (by omega), if_pos hlt2, impl_hexV d0 d1 _ (by omega)]
    simp only [Option.bind_some]
    rw [hdr, hdr2, unhexL]
    by_cases g1 : hexV (bt s i) < 0
    · rw [if_pos g1, if_pos g1]
    · rw [if_neg g1, if_neg g1]
      by_cases g2 : hexV (bt s (i + 1)) < 0
      · rw [if_pos g2, if_pos g2]
      · rw [if_neg g2, if_neg g2, if_pos (by omega), w64 (n := i + 2) (by omega) (by omega), w64 (n := 16 * hexV (bt s i)) (by omega) (by omega), w64 (n := 16 * hexV (bt s i) + _) (by omega) (by omega), show (16 * hexV (bt s i) + hexV (bt s (i + 1))) % 256 = 16 * hexV (bt s i) + hexV (bt s (i + 1)) by omega, ih k (i + 2) _ (by omega) (by omega) (by simp; omega) (by omega), unhexL_map, show (i + 2).toNat = i.toNat + 1 + 1 by omega]

theorem impl_Unhex_f (s : ByteArray) (hs : s.size ≤ 1048576) (k : Nat) (hk : s.size + 21 < k) : impl_Unhex.f k s = some (unhexM s) := by
  unfold impl_Unhex.f unhexM
  by_cases h : (s.size : Int) % 2 = 1
  · rw [if_neg (show ¬ (s.size : Int) % 2 = 0 by omega), if_pos h]
  · rw [if_pos (show (s.size : Int) % 2 = 0 by omega), if_neg h, impl_Unhex_run s hs (s.size / 2) k 0 [] (by omega) (by omega) (by simp; omega) (by omega)]; rfl


/-! what is drawn -/
theorem and_low (x : Int) : 0 ≤ Go.bits .and .i64 x 255 ∧ Go.bits .and .i64 x 255 < 256 := by
  have e3 : Go.bits .and .i64 x 255 = IntKind.i64.wrap ((BitVec.ofInt 64 x &&& BitVec.ofInt 64 255).toNat : Int) := rfl
  have h : (BitVec.ofInt 64 x &&& BitVec.ofInt 64 255).toNat ≤ 255 := by
    rw [BitVec.toNat_and]
    exact Nat.le_trans Nat.and_le_right (by decide)
  rw [e3]
  generalize (BitVec.ofInt 64 x &&& BitVec.ofInt 64 255).toNat = m at h
  rw [wrapi (by omega) (by omega)]
  omega
theorem l1Byte_ok (l : List Int) (p s : Int) (hl : l.length ≤ 140737488355328) (h0 : 0 ≤ p) (h1 : p ≤ l.length) : ∃ b p' s', spec_l1Byte.f l p s = some (b, p', s') ∧ (0 ≤ b ∧ b < 256) ∧ 0 ≤ p' ∧ p' ≤ l.length := by
  unfold spec_l1Byte.f
  by_cases h : p < (l.length : Int)
  · rw [if_pos h, if_pos h0]
    refine ⟨_, _, _, rfl, and_low _, ?_⟩
    rw [w64 (n := p + 1) (by omega) (by omega)]; omega
  · rw [if_neg h]
    exact ⟨_, _, _, rfl, and_low _, h0, h1⟩
theorem tmod_range {a n : Int} (h0 : 0 ≤ a) (hn : 0 < n) : 0 ≤ Int.tmod a n ∧ Int.tmod a n < n := by
  rw [tmod_nn h0]; exact ⟨Int.emod_nonneg _ (by omega), Int.emod_lt_of_pos _ hn⟩
theorem l1Below_ok (l : List Int) (p s n : Int) (hl : l.length ≤ 140737488355328) (h0 : 0 ≤ p) (h1 : p ≤ l.length) : ∃ v p' s', spec_l1Below.f l p s n = some (v, p', s') ∧ 0 ≤ v ∧ (0 < n → v < n) ∧ 0 ≤ p' ∧ p' ≤ l.length := by
  unfold spec_l1Below.f
  by_cases hn : n ≤ 0
  · rw [if_pos hn]; exact ⟨_, _, _, rfl, by omega, by omega, h0, h1⟩
  · rw [if_neg hn]
    obtain ⟨b, p1, s1, e1, ⟨b0, b1⟩, q0, q1⟩ := l1Byte_ok l p s hl h0 h1
    rw [e1]
    simp only [Option.bind_some]
    by_cases hn2 : n ≤ 256
    · rw [if_pos hn2, if_neg (by omega)]
      have := tmod_range (a := b) (n := n) b0 (by omega)
      exact ⟨_, _, _, rfl, this.1, fun _ => this.2, q0, q1⟩
    · rw [if_neg hn2]
      obtain ⟨c, p2, s2, e2, ⟨c0, c1⟩, q2, q3⟩ := l1Byte_ok l p1 s1 hl q0 q1
      rw [e2]
      simp only [Option.bind_some]
      obtain ⟨d, p3, s3, e3, ⟨d0, d1⟩, q4, q5⟩ := l1Byte_ok l p2 s2 hl q2 q3
      rw [e3]
      simp only [Option.bind_some]
      obtain ⟨f, p4, s4, e4, ⟨f0, f1⟩, q6, q7⟩ := l1Byte_ok l p3 s3 hl q4 q5
      rw [e4]
      simp only [Option.bind_some]
      rw [if_neg (by omega), w64 (n := b * 16777216) (by omega) (by omega), w64 (n := c * 65536) (by omega) (by omega), w64 (n := d * 256) (by omega) (by omega), w64 (n := b * 16777216 + c * 65536) (by omega) (by omega), w64 (n := b * 16777216 + c * 65536 + d * 256) (by omega) (by omega), w64 (n := b * 16777216 + c * 65536 + d * 256 + f) (by omega) (by omega)]
      have := tmod_range (a := b * 16777216 + c * 65536 + d * 256 + f) (n := n) (by omega) (by omega)
      exact ⟨_, _, _, rfl, this.1, fun _ => this.2, q6, q7⟩
theorem l1Text_run : ∀ (d k : Nat) (acc : List Int) (m c : Int) (l : List Int) (p s : Int), c = d → acc.length + d ≤ 1000000 → l.length ≤ 140737488355328 → 0 ≤ p → p ≤ l.length → d < k →
    ∃ t p' s', spec_l1Text.l0 k acc m c l p s = some (t, p', s') ∧ t.size = acc.length + d ∧ 0 ≤ p' ∧ p' ≤ l.length := by
  intro d
  induction d with
  | zero =>
    intro k acc m c l p s hc ha hl h0 h1 hk
    obtain ⟨q, rfl⟩ : ∃ m, k = m + 1 := ⟨k - 1, by omega⟩
    simp only [spec_l1Text.l0]
    rw [if_neg (by omega)]
    exact ⟨_, _, _, rfl, by rw [size_strOfNums]; omega, h0, h1⟩
  | succ d ih =>
    intro k acc m c l p s hc ha hl h0 h1 hk
    obtain ⟨q, rfl⟩ : ∃ m, k = m + 1 := ⟨k - 1, by omega⟩
    obtain ⟨b, p1, s1, e1, _, q0, q1⟩ := l1Byte_ok l p s hl h0 h1
    have hc2 : wrap64 (c - 1) = (d : Int) := by rw [w64 (n := c - 1) (by omega) (by omega)]; omega
    have key : ∀ x, ∃ t p' s', spec_l1Text.l0 q (acc ++ [x]) m (wrap64 (c - 1)) l p1 s1 = some (t, p', s') ∧ t.size = acc.length + (d + 1) ∧ 0 ≤ p' ∧ p' ≤ l.length := by
      intro x
      obtain ⟨t, p', s', e, hs, g0, g1⟩ := ih q (acc ++ [x]) m (wrap64 (c - 1)) l p1 s1 hc2 (by simp; omega) hl q0 q1 (by omega)
      exact ⟨t, p', s', e, by rw [hs]; simp; omega, g0, g1⟩
    simp only [spec_l1Text.l0]
    rw [if_pos (by omega), e1]
    simp only [Option.bind_some]
    by_cases h1m : m = 1
    · rw [if_pos h1m, if_neg (by omega), if_pos (by omega)]; exact key _
    · rw [if_neg h1m]
      by_cases h2m : m = 2
      · rw [if_pos h2m, if_pos (by omega)]; exact key _
      · rw [if_neg h2m, if_pos (by omega)]; exact key _
theorem l1Text_ok (k : Nat) (l : List Int) (p s n : Int) (hl : l.length ≤ 140737488355328) (h0 : 0 ≤ p) (h1 : p ≤ l.length) (n0 : 0 ≤ n) (n1 : n ≤ 100000) (hk : n < k) : ∃ t p' s', spec_l1Text.f k l p s n = some (t, p', s') ∧ (t.size : Int) ≤ n ∧ 0 ≤ p' ∧ p' ≤ l.length := by
  unfold spec_l1Text.f
  obtain ⟨v, p1, s1, e1, _, _, q0, q1⟩ := l1Below_ok l p s 4 hl h0 h1
  rw [e1]
  simp only [Option.bind_some]
  obtain ⟨c, p2, s2, e2, c0, c1, q2, q3⟩ := l1Below_ok l p1 s1 (wrap64 (n + 1)) hl q0 q1
  rw [e2]
  simp only [Option.bind_some]
  have hw := w64 (n := n + 1) (by omega) (by omega)
  rw [hw] at c1
  have c2 := c1 (by omega)
  obtain ⟨t, p', s', e, hs, g⟩ := l1Text_run c.toNat k [] v c l p2 s2 (by omega) (by simp; omega) hl q2 q3 (by omega)
  refine ⟨t, p', s', e, ?_, g⟩
  rw [hs]; simp; omega
theorem l1New_run (l : List Int) (hl : l.length ≤ 140737488355328) : ∀ (d k : Nat) (x3 x4 : Int), 0 ≤ x4 → x4 ≤ 4000 → x4 + d = 4001 → d < k → ∃ s, spec_l1New.l0 k l x3 x4 = some (l, 0, s) := by
  intro d
  induction d with
  | zero => intro k x3 x4 h0 h1 h2; omega
  | succ d ih =>
    intro k x3 x4 h0 h1 h2 hk
    obtain ⟨q, rfl⟩ : ∃ m, k = m + 1 := ⟨k - 1, by omega⟩
    simp only [spec_l1New.l0]
    by_cases a : x4 < (l.length : Int)
    · rw [if_pos a]
      by_cases b : x4 < 4000
      · rw [if_pos b, if_pos h0, w64 (n := x4 + 1) (by omega) (by omega)]
        exact ih q _ _ (by omega) (by omega) (by omega) (by omega)
      · rw [if_neg b]; exact ⟨_, rfl⟩
    · rw [if_neg a]; exact ⟨_, rfl⟩
theorem l1New_ok (l : List Int) (hl : l.length ≤ 140737488355328) (k : Nat) (hk : 4001 < k) : ∃ s, spec_l1New.f k l = some (l, 0, s) := by
  unfold spec_l1New.f
  exact l1New_run l hl 4001 k _ 0 (by omega) (by omega) (by omega) hk

theorem drawHex_ok (l : List Int) (hl : l.length ≤ 140737488355328) (k : Nat) (hk : 4101 < k) : ∃ t, spec_DrawHex.f k l = some t ∧ t.size ≤ 40 := by
  unfold spec_DrawHex.f
  obtain ⟨s, e⟩ := l1New_ok l hl k (by omega)
  rw [e]
  simp only [Option.bind_some]
  obtain ⟨t, p, s2, e2, h, _⟩ := l1Text_ok k l 0 s 40 hl (by omega) (by omega) (by omega) (by omega) (by omega)
  rw [e2]
  exact ⟨t, rfl, by omega⟩

/-! plain laws of numbers there and back -/
theorem rv_varN : ∀ (d n : Nat) (t : List Int) (i : Nat) (acc : Int), n < 128 ^ (d + 1) → i + d ≤ 6 → (i = 0 ∨ 0 < n) → rv (varN n ++ t) i acc = (acc + n * 128 ^ i, (i : Int) + (varN n).length) := by
  have base : ∀ (n : Nat) (t : List Int) (i : Nat) (acc : Int), n < 128 → i ≤ 6 → (i = 0 ∨ 0 < n) → rv (varN n ++ t) i acc = (acc + n * 128 ^ i, (i : Int) + (varN n).length) := by
    intro n t i acc h hi h0
    rw [varN_lt h, List.singleton_append, rv, if_pos (by omega), if_neg (by omega), if_neg (by omega), show (n : Int) % 128 = n by omega]; rfl
  intro d
  induction d with
  | zero => intro n t i acc h hi h0; exact base n t i acc (by omega) (by omega) h0
  | succ d ih =>
    intro n t i acc h hi h0
    by_cases hn : n < 128
    · exact base n t i acc hn (by omega) h0
    · rw [pow128] at h
      rw [varN_ge hn, List.cons_append, rv, if_pos (by omega), if_pos (by omega), ih (n / 128) t (i + 1) _ (by omega) (by omega) (.inr (by omega))]
      have hp : (128 : Int) ^ (i + 1) = 128 ^ i * 128 := Int.pow_succ 128 i
      have e1 : ((n % 128 + 128 : Nat) : Int) % 128 = ((n % 128 : Nat) : Int) := by omega
      have e2 : (n : Int) * 128 ^ i = ((n % 128 : Nat) : Int) * 128 ^ i + ((n / 128 : Nat) : Int) * 128 ^ (i + 1) := by
        rw [hp, Int.mul_comm (128 ^ i) 128, ← Int.mul_assoc, ← Int.add_mul]
        congr 1; omega
      rw [e1, e2]
      simp only [List.length_cons, Prod.mk.injEq]
      constructor
      · omega
      · omega
theorem rv_varM {n : Int} (h0 : 0 ≤ n) (h1 : n ≤ 562949953421311) (t : List Int) : rv (varM n ++ t) 0 0 = (n, ((varM n).length : Int)) := by
  unfold varM
  rw [if_pos ⟨h0, h1⟩, rv_varN 6 n.toNat t 0 0 (by omega) (by omega) (.inl rfl)]
  simp; omega
theorem rv_to : ∀ (l pre : List Int) (v s : Int), Byt (pre ++ l) → (∀ x ∈ pre, x ≥ 128) → rv l pre.length (le7 pre) = (v, s) → 0 < s → varM v = (pre ++ l).take s.toNat ∧ s ≤ (pre.length : Int) + l.length
  | [], pre, v, s, _, _, h, h0 => by simp only [rv, Prod.mk.injEq] at h; omega
  | b :: t, pre, v, s, hb, hp, h, h0 => by
    rw [rv] at h
    have hbb : Byt (pre ++ [b]) := fun x hx => hb x (by rcases List.mem_append.1 hx with q | q
                                                        · exact List.mem_append.2 (.inl q)
                                                        · rw [List.mem_singleton.1 q]; exact List.mem_append.2 (.inr (List.mem_cons_self)))
    obtain ⟨b0, b1⟩ := hbb b (List.mem_append.2 (.inr (List.mem_singleton.2 rfl)))
    by_cases h7 : pre.length < 7
    · rw [if_pos h7] at h
      have e : (le7 pre : Int) + b % 128 * 128 ^ pre.length = ((le7 (pre ++ [b]) : Nat) : Int) := by
        rw [le7_snoc, Int.natCast_add, Int.natCast_mul, show (((b % 128).toNat : Nat) : Int) = b % 128 by omega, Int.natCast_pow, Int.mul_comm]; rfl
      rw [e] at h
      by_cases hg : b ≥ 128
      · rw [if_pos hg] at h
        have := rv_to t (pre ++ [b]) v s (by rw [List.append_assoc]; exact hb) (by
          intro x hx
          rcases List.mem_append.1 hx with q | q
          · exact hp x q
          · rw [List.mem_singleton.1 q]; exact hg) (by rw [List.length_append]; exact h) h0
        rw [List.append_assoc, List.singleton_append, List.length_append, List.length_singleton] at this
        rw [List.length_cons]
        exact ⟨this.1, by have := this.2; omega⟩
      · rw [if_neg hg] at h
        by_cases hz : b = 0 ∧ pre.length > 0
        · rw [if_pos hz] at h; simp only [Prod.mk.injEq] at h; omega
        · rw [if_neg hz] at h
          simp only [Prod.mk.injEq] at h
          obtain ⟨hv, hs⟩ := h
          have hb7 := le7_bound (pre ++ [b])
          have hle : 128 ^ (pre ++ [b]).length ≤ 128 ^ 7 := Nat.pow_le_pow_right (by omega) (by rw [List.length_append]; simp; omega)
          have hback := varN_back pre b hbb hp (by omega) (by
            by_cases hq : pre = []
            · exact .inl hq
            · right; intro hb0; exact hz ⟨hb0, List.length_pos_iff.2 hq⟩)
          unfold varM
          rw [if_pos (by constructor <;> omega), ← hv, show ((le7 (pre ++ [b]) : Nat) : Int).toNat = le7 (pre ++ [b]) by omega, hback, ← hs]
          constructor
          · rw [show ((pre.length : Int) + 1).toNat = (pre ++ [b]).length by rw [List.length_append, List.length_singleton]; omega, show pre ++ b :: t = (pre ++ [b]) ++ t by simp]
            exact (List.take_left' rfl).symm
          · rw [List.length_cons]; omega
    · rw [if_neg h7] at h; simp only [Prod.mk.injEq] at h; omega
theorem rdFix_back {n : Int} (h0 : 0 ≤ n) (h1 : n < 72057594037927936) (t : ByteArray) : rdFixM (strOfNums (fixM n 7) ++ t) 7 = (n, true) ∧ (strOfNums (fixM n 7)).size = 7 := by
  have p7 : (256 : Int) ^ (7 : Int).toNat = 72057594037927936 := by decide
  have q7 : (256 : Int) ^ 7 = 72057594037927936 := by decide
  have hf : fixM n 7 = fixL 7 n := by
    unfold fixM
    rw [if_pos (by refine ⟨by omega, by omega, h0, ?_⟩; omega)]; rfl
  have hs : (strOfNums (fixM n 7)).size = 7 := by rw [size_strOfNums, hf, fixL_length]
  have hbe := be_fixL 7 n h0 (by omega)
  have hb : Byt (fixM n 7) := by rw [hf]; exact fixL_byt _ _
  refine ⟨?_, hs⟩
  unfold rdFixM
  rw [if_pos (by rw [ByteArray.size_append, hs]; omega), bytesOf_append, bytesOf_strOfNums hb, hf, List.take_left' (by rw [fixL_length]; rfl), hbe]
theorem fixM_none {n : Int} (h : ¬ (0 ≤ n ∧ n < 72057594037927936)) : fixM n 7 = [] := by
  unfold fixM
  rw [if_neg]
  have : (256 : Int) ^ (7 : Int).toNat = 72057594037927936 := by decide
  omega
theorem rdI_dec (n : Int) : rdI (decM n) = if -1000000000 < n ∧ n < 1000000000 then (n, true) else (0, false) := by
  by_cases h : -1000000000 < n ∧ n < 1000000000
  · rw [if_pos h, rdI_of h.1 h.2]
  · rw [if_neg h]
    refine rdI_false ?_
    cases hb : (rdI (decM n)).2 with
    | false => rfl
    | true =>
      have := rdI_to (l := decM n) (v := (rdI (decM n)).1) (by rw [← hb])
      have e := decM_inj this.2.2
      omega
theorem hexV_digit {x : Int} (h0 : 0 ≤ x) (h1 : x < 16) : hexV (bt hexD x) = x := by
  have h : ∀ n : Fin 16, hexV (bt hexD (n.val : Int)) = (n.val : Int) := by decide +kernel
  have := h ⟨x.toNat, by omega⟩
  simpa [Int.toNat_of_nonneg h0] using this
theorem unhexL_hexL : ∀ (l : List Int), Byt l → unhexL (hexL l) = some l
  | [], _ => rfl
  | b :: l, hb => by
    obtain ⟨⟨b0, b1⟩, hl⟩ := byt_cons.1 hb
    rw [hexL, hexB, List.cons_append, List.cons_append, List.nil_append, unhexL, hexV_digit (by omega) (by omega), hexV_digit (by omega) (by omega), if_neg (by omega), if_neg (by omega), unhexL_hexL l hl]
    simp only [Option.map_some, Option.some.injEq, List.cons.injEq, and_true]; omega
theorem hexL_length : ∀ (l : List Int), (hexL l).length = 2 * l.length
  | [] => rfl
  | b :: l => by rw [hexL, List.length_append, hexL_length l, List.length_cons]; simp [hexB]; omega
theorem hexL_byt : ∀ (l : List Int), Byt (hexL l)
  | [] => byt_nil
  | b :: l => byt_append.2 ⟨byt_cons.2 ⟨by have := bt_range hexD (b / 16); omega, byt_cons.2 ⟨by have := bt_range hexD (b % 16); omega, byt_nil⟩⟩, hexL_byt l⟩
theorem unhex_back (t : ByteArray) : unhexM (strOfNums (hexL (bytesOf t))) = (t, true) := by
  unfold unhexM
  rw [if_neg (by rw [size_strOfNums, hexL_length]; omega), bytesOf_strOfNums (hexL_byt _), unhexL_hexL _ (byt_bytesOf t)]
  simp only [strOfNums_bytesOf]

/-! what FnNumbers draws -/
theorem l1Once_ok (l : List Int) (p s n : Int) (hl : l.length ≤ 140737488355328) (h0 : 0 ≤ p) (h1 : p ≤ l.length) : ∃ v p' s', spec_l1Once.f l p s n = some (v, p', s') ∧ 0 ≤ p' ∧ p' ≤ l.length := by
  unfold spec_l1Once.f
  obtain ⟨v, p1, s1, e1, v0, v1, q0, q1⟩ := l1Below_ok l p s n hl h0 h1
  rw [e1]; exact ⟨_, _, _, rfl, q0, q1⟩
theorem w64_range (x : Int) : -9223372036854775808 ≤ wrap64 x ∧ wrap64 x ≤ 9223372036854775807 := by
  unfold wrap64
  omega
theorem l1Num_ok (l : List Int) (p s : Int) (hl : l.length ≤ 140737488355328) (h0 : 0 ≤ p) (h1 : p ≤ l.length) : ∃ v p' s', spec_l1Num.f l p s = some (v, p', s') ∧ (-9223372036854775808 ≤ v ∧ v ≤ 9223372036854775807) ∧ 0 ≤ p' ∧ p' ≤ l.length := by
  unfold spec_l1Num.f
  obtain ⟨v, p1, s1, e1, v0, v1, q0, q1⟩ := l1Below_ok l p s 8 hl h0 h1
  rw [e1]; simp only [Option.bind_some]
  by_cases c0 : v = 0
  · rw [if_pos c0]
    unfold spec_l1PickInt.f
    obtain ⟨u, p2, s2, e2, u0, u1, q2, q3⟩ := l1Below_ok l p1 s1 ((([(-1), 0, 127, 128, 255, 256, 16383, 16384, 65535, 65536, 562949953421311, 562949953421312, 999999999, 1000000000, (-999999999), 9223372036854775807, (-9223372036854775808)] : List Int)).length : Int) hl q0 q1
    rw [e2]; simp only [Option.bind_some]
    have u2 := u1 (by decide)
    rw [if_pos u0, if_pos u2]; simp only [Option.bind_some]
    refine ⟨_, _, _, rfl, ?_, q2, q3⟩
    have hm : ∀ i : Fin 17, -9223372036854775808 ≤ rd ([(-1), 0, 127, 128, 255, 256, 16383, 16384, 65535, 65536, 562949953421311, 562949953421312, 999999999, 1000000000, (-999999999), 9223372036854775807, (-9223372036854775808)] : List Int) (i.val : Int) ∧ rd ([(-1), 0, 127, 128, 255, 256, 16383, 16384, 65535, 65536, 562949953421311, 562949953421312, 999999999, 1000000000, (-999999999), 9223372036854775807, (-9223372036854775808)] : List Int) (i.val : Int) ≤ 9223372036854775807 := by decide
    have u3 : u < 17 := u2
    have := hm ⟨u.toNat, by omega⟩
    rw [show (((⟨u.toNat, by omega⟩ : Fin 17).val : Nat) : Int) = u by simp; omega] at this
    exact this
  · rw [if_neg c0]
    by_cases c1 : v = 1
    · rw [if_pos c1]
      obtain ⟨a, p2, s2, e2, _, _, q2, q3⟩ := l1Below_ok l p1 s1 1000000000 hl q0 q1
      rw [e2]; simp only [Option.bind_some]
      obtain ⟨b, p3, s3, e3, _, _, q4, q5⟩ := l1Below_ok l p2 s2 1000000000 hl q2 q3
      rw [e3]; exact ⟨_, _, _, rfl, w64_range _, q4, q5⟩
    · rw [if_neg c1]
      by_cases c2 : v = 2
      · rw [if_pos c2]
        obtain ⟨a, p2, s2, e2, _, _, q2, q3⟩ := l1Below_ok l p1 s1 100000 hl q0 q1
        rw [e2]; exact ⟨_, _, _, rfl, w64_range _, q2, q3⟩
      · rw [if_neg c2]
        obtain ⟨a, p2, s2, e2, a0, a1, q2, q3⟩ := l1Below_ok l p1 s1 70000 hl q0 q1
        have a2 := a1 (by omega)
        rw [e2]; exact ⟨_, _, _, rfl, by omega, q2, q3⟩
theorem drawVar_ok (l : List Int) (hl : l.length ≤ 140737488355328) (k : Nat) (hk : 4001 < k) : ∃ n, spec_DrawVar.f k l = some n ∧ -9223372036854775808 ≤ n ∧ n ≤ 9223372036854775807 := by
  unfold spec_DrawVar.f
  obtain ⟨s, e⟩ := l1New_ok l hl k hk
  rw [e]; simp only [Option.bind_some]
  obtain ⟨v, p, s2, e2, h, _⟩ := l1Num_ok l 0 s hl (by omega) (by omega)
  rw [e2]; exact ⟨v, rfl, h⟩
theorem l1Spoil_ok (l : List Int) (p s : Int) (t : ByteArray) (ht : t.size ≤ 100) (k : Nat) (hk : 10 < k) (hl : l.length ≤ 140737488355328) (h0 : 0 ≤ p) (h1 : p ≤ l.length) : ∃ u p' s', spec_l1Spoil.f k l p s t = some (u, p', s') := by
  unfold spec_l1Spoil.f
  by_cases hz : (t.size : Int) = 0
  · rw [if_pos hz]
    obtain ⟨u, p1, s1, e1, _⟩ := l1Text_ok k l p s 3 hl h0 h1 (by omega) (by omega) (by omega)
    rw [e1]; exact ⟨_, _, _, rfl⟩
  · rw [if_neg hz]
    obtain ⟨i, p1, s1, e1, i0, i1, q0, q1⟩ := l1Below_ok l p s t.size hl h0 h1
    rw [e1]; simp only [Option.bind_some]
    have i2 := i1 (by omega)
    obtain ⟨c, p2, s2, e2, _, _, q2, q3⟩ := l1Below_ok l p1 s1 4 hl q0 q1
    rw [e2]; simp only [Option.bind_some]
    have hA : (t.extract 0 i.toNat).size ≤ 100 := by rw [ByteArray.size_extract]; omega
    have hB : ∀ a : Nat, (t.extract a t.size).size ≤ 100 := fun a => by rw [ByteArray.size_extract]; omega
    have hw : wrap64 (i + 1) = i + 1 := w64 (by omega) (by omega)
    rw [hw]
    by_cases c0 : c = 0
    · have := hB (i + 1).toNat
      rw [if_pos c0, if_pos i0, if_pos (by omega), if_pos (by omega), if_pos (by omega), if_pos (by omega)]; exact ⟨_, _, _, rfl⟩
    · rw [if_neg c0]
      by_cases c1 : c = 1
      · obtain ⟨b, p3, s3, e3, _⟩ := l1Byte_ok l p2 s2 hl q2 q3
        have hy : (strOfNums [b % 256]).size = 1 := by rw [size_strOfNums]; rfl
        have := hB i.toNat
        rw [if_pos c1, if_pos i0, if_pos (by omega), e3]; simp only [Option.bind_some]
        rw [if_pos (by omega), if_pos (by omega)]; exact ⟨_, _, _, rfl⟩
      · rw [if_neg c1]
        by_cases c2 : c = 2
        · rw [if_pos c2, if_pos i0, if_pos (by omega)]; exact ⟨_, _, _, rfl⟩
        · obtain ⟨b, p3, s3, e3, _⟩ := l1Below_ok l p2 s2 255 hl q2 q3
          rw [if_neg c2, if_pos i0, if_pos (by omega), if_pos i2, e3]; simp only [Option.bind_some]
          have hy : ∀ z : Int, (strOfNums [z]).size = 1 := fun z => by rw [size_strOfNums]; rfl
          have h2 := hB (i + 1).toNat
          have h3 := hy (Go.bits .xor .i64 (wrap64 (bt t i)) (wrap64 (1 + b)) % 256)
          rw [if_pos (by omega), if_pos (by omega), if_pos (by omega), if_pos (by omega)]; exact ⟨_, _, _, rfl⟩
theorem drawReadVar_ok (l : List Int) (hl : l.length ≤ 140737488355328) (k : Nat) (hk : 4101 < k) : ∃ t, spec_DrawReadVar.f k l = some t := by
  unfold spec_DrawReadVar.f
  obtain ⟨s, e⟩ := l1New_ok l hl k (by omega)
  rw [e]; simp only [Option.bind_some]
  obtain ⟨v, p1, s1, e1, _, q0, q1⟩ := l1Num_ok l 0 s hl (by omega) (by omega)
  rw [e1]; simp only [Option.bind_some]
  have hv := varM_length v
  have hvs : (strOfNums (varM v)).size ≤ 7 := by rw [size_strOfNums]; exact hv
  rw [spec_Var_f v k (by omega)]; simp only [Option.bind_some]
  obtain ⟨t, p2, s2, e2, ht, q2, q3⟩ := l1Text_ok k l p1 s1 4 hl q0 q1 (by omega) (by omega) (by omega)
  rw [e2]; simp only [Option.bind_some]
  rw [if_pos (by omega)]
  obtain ⟨b, p3, s3, e3, q4, q5⟩ := l1Once_ok l p2 s2 4 hl q2 q3
  rw [e3]; simp only [Option.bind_some]
  by_cases hb : b = true
  · rw [if_pos hb]
    obtain ⟨u, p4, s4, e4⟩ := l1Spoil_ok l p3 s3 (strOfNums (varM v) ++ t) (by rw [ByteArray.size_append]; omega) k (by omega) hl q4 q5
    rw [e4]; exact ⟨_, rfl⟩
  · rw [if_neg hb]; exact ⟨_, rfl⟩

theorem tl0 : (⟨#[]⟩ : ByteArray).toList = [] := by have := toList_nil (⟨#[]⟩ : ByteArray); simp
theorem toL0 {s : ByteArray} (h : s.toList = []) : s.size = 0 := by have := toList_nil s; rw [h] at this; simpa using this.symm
theorem FnNumbers_j2 (l : List Int) (hl : l.length ≤ 1048576) (t : ByteArray) (ht : t.size ≤ 40) (k : Nat) (hk : 5000 < k) : laws_FnNumbers.j2 k l t false = some true := by
  obtain ⟨q, rfl⟩ : ∃ m, k = m + 1 := ⟨k - 1, by omega⟩
  simp only [laws_FnNumbers.j2]
  rw [if_neg (by decide), impl_Hex_f t (by omega) q (by omega)]; simp only [Option.bind_some]
  rw [impl_Unhex_f _ (by rw [size_strOfNums, hexL_length, bytesOf_length]; omega) q (by rw [size_strOfNums, hexL_length, bytesOf_length]; omega), unhex_back]; simp only [Option.bind_some]
  obtain ⟨u, eu⟩ := drawReadVar_ok l (by omega) q (by omega)
  rw [eu]; simp only [Option.bind_some]
  rw [impl_ReadVar_f u q (by omega)]; simp only [Option.bind_some]
  rw [if_pos trivial, if_pos trivial]
  have hb := rv_bound (bytesOf u) 0 0 (byt_bytesOf _) (by omega) (by simp) (by omega)
  cases hr : rv (bytesOf u) 0 0 with
  | mk v s =>
    rw [hr] at hb
    simp only [] at hb ⊢
    by_cases h0 : s = 0
    · rw [if_pos h0]
    · have hr2 := rv_to (bytesOf u) [] v s (byt_bytesOf _) (fun x hx => by cases hx) (by simpa [le7] using hr) (by omega)
      rw [List.nil_append, bytesOf_length, List.length_nil] at hr2
      rw [if_neg h0, if_pos (by omega), if_pos (by omega), impl_Var_f v q (by omega)]; simp only [Option.bind_some]
      rw [if_pos (by omega), if_pos (by omega)]
      have : strOfNums (varM v) = u.extract 0 s.toNat := bytesOf_inj (by rw [bytesOf_strOfNums (varM_byt _), bytesOf_extract, List.drop_zero]; exact hr2.1)
      rw [this]; simp
theorem FnNumbers_j1 (l : List Int) (hl : l.length ≤ 1048576) (n : Int) (n0 : -9223372036854775808 ≤ n) (n1 : n ≤ 9223372036854775807) (t : ByteArray) (ht : t.size ≤ 40) (k : Nat) (hk : 5010 < k) : laws_FnNumbers.j1 k l n t false = some true := by
  obtain ⟨q, rfl⟩ : ∃ m, k = m + 1 := ⟨k - 1, by omega⟩
  have hj := FnNumbers_j2 l hl t ht q (by omega)
  simp only [laws_FnNumbers.j1]
  rw [if_neg (by decide), impl_Dec_f n n0 n1 q (by omega)]; simp only [Option.bind_some]
  rw [impl_ReadDec_f _ q (by omega), bytesOf_strOfNums (decM_byt n), rdI_dec]; simp only [Option.bind_some]
  by_cases h : -1000000000 < n ∧ n < 1000000000
  · rw [if_pos h, if_pos (by omega)]
    simp only [bne_self_eq_false]
    rw [if_neg (by simp; omega), if_pos trivial]; exact hj
  · rw [if_neg h]
    simp only []
    by_cases h2 : n > -1000000000
    · rw [if_pos h2, if_neg (by simp; omega), if_neg (by decide)]; exact hj
    · rw [if_neg h2, if_neg (by decide), if_neg (by decide)]; exact hj
theorem FnNumbers_j0 (l : List Int) (hl : l.length ≤ 1048576) (n : Int) (n0 : -9223372036854775808 ≤ n) (n1 : n ≤ 9223372036854775807) (t : ByteArray) (ht : t.size ≤ 40) (k : Nat) (hk : 5020 < k) : laws_FnNumbers.j0 k l n t false = some true := by
  obtain ⟨q, rfl⟩ : ∃ m, k = m + 1 := ⟨k - 1, by omega⟩
  have hj := FnNumbers_j1 l hl n n0 n1 t ht q (by omega)
  simp only [laws_FnNumbers.j0]
  rw [if_neg (by decide), impl_Fixed_f n 7 q (by omega)]; simp only [Option.bind_some]
  by_cases h : 0 ≤ n ∧ n < 72057594037927936
  · obtain ⟨e, hs⟩ := rdFix_back h.1 h.2 t
    have hne : (strOfNums (fixM n 7)).toList ≠ [] := by
      intro hc
      have := toL0 hc
      omega
    rw [if_pos (by omega), impl_ReadFixed_f _ 7 q (by omega), e]; simp only [Option.bind_some]
    rw [if_neg hne, if_pos trivial, if_pos trivial, if_pos (by omega), if_neg (by omega), show ((strOfNums (fixM n 7)).toList == ([] : List UInt8)) = false from beq_eq_false_iff_ne.mpr hne, show decide (n ≥ 72057594037927936) = false from decide_eq_false (by omega)]; exact hj
  · rw [fixM_none h, show strOfNums [] = (⟨#[]⟩ : ByteArray) from rfl]
    rw [if_pos (by rw [show (⟨#[]⟩ : ByteArray).size = 0 from rfl]; omega), impl_ReadFixed_f _ 7 q (by omega)]; simp only [Option.bind_some]
    rw [if_pos tl0]
    by_cases hn : n < 0
    · rw [if_pos hn, show ((⟨#[]⟩ : ByteArray).toList == ([] : List UInt8)) = true from beq_iff_eq.mpr tl0]; exact hj
    · rw [if_neg hn, show ((⟨#[]⟩ : ByteArray).toList == ([] : List UInt8)) = true from beq_iff_eq.mpr tl0, show decide (n ≥ 72057594037927936) = true from decide_eq_true (by omega)]; exact hj
theorem FnNumbers : laws_FnNumbers.Pure := by
  intro l h0 h1 h
  unfold laws_FnNumbers.f laws_big.f
  simp only [Option.bind_some, decide_eq_true_eq]
  by_cases hb : (l.length : Int) > 1048576
  · exact ⟨0, by rw [if_pos hb]⟩
  · obtain ⟨K, hK⟩ : ∃ K : Nat, K = 10000 := ⟨_, rfl⟩
    refine ⟨K, ?_⟩
    rw [if_neg hb]
    obtain ⟨n, en, n0, n1⟩ := drawVar_ok l (by omega) K (by omega)
    rw [en]; simp only [Option.bind_some]
    obtain ⟨t, et, ht⟩ := drawHex_ok l (by omega) K (by omega)
    rw [et]; simp only [Option.bind_some]
    have hj := FnNumbers_j0 l (by omega) n n0 n1 t ht K (by omega)
    have hv := varM_length n
    have hvs : (strOfNums (varM n)).size ≤ 7 := by rw [size_strOfNums]; exact hv
    rw [impl_Var_f n K (by omega)]; simp only [Option.bind_some]
    rw [if_pos (by omega), impl_ReadVar_f _ K (by omega)]; simp only [Option.bind_some]
    by_cases hr : 0 ≤ n ∧ n ≤ 562949953421311
    · have e : rv (bytesOf (strOfNums (varM n) ++ t)) 0 0 = (n, ((strOfNums (varM n)).size : Int)) := by
        rw [bytesOf_append, bytesOf_strOfNums (varM_byt n), rv_varM hr.1 hr.2, size_strOfNums]
      have hne : (strOfNums (varM n)).toList ≠ [] := by
        intro hc
        have := toL0 hc
        rw [size_strOfNums] at this
        have := List.length_eq_zero_iff.1 this
        unfold varM at this
        rw [if_pos hr] at this
        exact varN_ne _ this
      rw [if_pos (by omega), show ((strOfNums (varM n)).toList != ([] : List UInt8)) = true from bne_iff_ne.mpr hne, show decide (n ≤ 562949953421311) = true from decide_eq_true hr.2, if_neg (by decide), if_neg hne, e]
      simp only []
      rw [if_pos trivial, bne_self_eq_false]; exact hj
    · have e : strOfNums (varM n) = (⟨#[]⟩ : ByteArray) := by unfold varM; rw [if_neg hr]; rfl
      rw [e]
      have hz : ((⟨#[]⟩ : ByteArray).toList != ([] : List UInt8)) = false := by rw [tl0]; rfl
      by_cases hn : n ≥ 0
      · rw [if_pos hn, hz, show decide (n ≤ 562949953421311) = false from decide_eq_false (by omega), if_neg (by decide), if_pos tl0]; exact hj
      · rw [if_neg hn, hz, if_neg (by decide), if_pos tl0]; exact hj

end Go.Proofs.Ytfmddjbekophnaa.Pure
