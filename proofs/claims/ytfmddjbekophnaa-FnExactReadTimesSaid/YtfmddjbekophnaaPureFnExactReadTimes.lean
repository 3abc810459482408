/- The times' text read back. -/
import Derived.Test.YtfmddjbekophnaaPFnExactReadTimesx1
import Derived.Test.YtfmddjbekophnaaPFnExactReadTimesx2
import Derived.Test.YtfmddjbekophnaaPFnExactReadTimesx3
import Derived.Test.YtfmddjbekophnaaPFnExactReadTimesx4
import Derived.Test.YtfmddjbekophnaaPFnExactReadTimesx5
import Derived.Test.YtfmddjbekophnaaPFnExactReadTimesx6
import Derived.Test.YtfmddjbekophnaaPFnExactReadTimesx7
import Derived.Test.YtfmddjbekophnaaBase
import Derived.Test.YtfmddjbekophnaaNum
import Derived.Test.YtfmddjbekophnaaNumBits
namespace Go.Proofs.Ytfmddjbekophnaa.Pure
open Go.RowKit Go.Proofs.Ytfmddjbekophnaa.PFnExactReadTimes Go.Proofs.YtfmddjbekophnaaW.PrintWords Go.Proofs.YtfmddjbekophnaaW.PrintLast Go.Proofs.YtfmddjbekophnaaW.PrintMore Go.Proofs.Ytfmddjbekophnaa.Base
set_option linter.unusedVariables false
set_option linter.unusedSimpArgs false

/-! ranges -/
theorem spec_l1In_run (a b c : Int) : spec_l1In.f a b c = some (decide (b ≤ a ∧ a ≤ c)) := by
  unfold spec_l1In.f
  by_cases h : a ≥ b
  · rw [if_pos h]; congr 1; simp [show b ≤ a from h]
  · rw [if_neg h]; congr 1; simp; omega

theorem impl_from_run (a b c : Int) : impl_from.f a b c = some (decide (b ≤ a ∧ a ≤ c)) := by
  unfold impl_from.f
  by_cases h : a ≥ b
  · rw [if_pos h]; congr 1; simp [show b ≤ a from h]
  · rw [if_neg h]; congr 1; simp; omega

/-! slices of numbers -/
theorem rd_at (a b : List Int) (x i : Int) (h : i = a.length) : rd (a ++ x :: b) i = x := by
  subst h; simp [rd, List.getD]
theorem set_at (a b : List Int) (x y : Int) : (a ++ x :: b).set ((a.length : Int)).toNat y = a ++ y :: b := by
  rw [show ((a.length : Int)).toNat = a.length by omega, List.set_append_right _ _ (Nat.le_refl _), Nat.sub_self, List.set_cons_zero]
theorem laws_eqIntS_run (l : List Int) (hl : l.length ≤ 1099511627776) : ∀ (d k : Nat) (i : Int), 0 ≤ i → i + d = l.length → d < k → laws_eqIntS.l0 k l l i = some true := by
  intro d
  induction d with
  | zero =>
    intro k i h0 h1 hk
    obtain ⟨q, rfl⟩ : ∃ m, k = m + 1 := ⟨k - 1, by omega⟩
    simp only [laws_eqIntS.l0]; rw [if_neg (by omega)]
  | succ d ih =>
    intro k i h0 h1 hk
    obtain ⟨q, rfl⟩ : ∃ m, k = m + 1 := ⟨k - 1, by omega⟩
    simp only [laws_eqIntS.l0]
    rw [if_pos (by omega), if_pos h0, if_pos (by omega), if_pos trivial, w64 (n := i + 1) (by omega) (by omega), ih q (i + 1) (by omega) (by omega) (by omega)]
theorem laws_eqIntS_f (l : List Int) (hl : l.length ≤ 1099511627776) (k : Nat) (hk : l.length < k) : laws_eqIntS.f k l l = some true := by
  unfold laws_eqIntS.f; rw [if_pos rfl]; exact laws_eqIntS_run l hl l.length k 0 (by omega) (by omega) hk

/-! Var -/
theorem spec_Var_run : ∀ (d k n : Nat) (xs : List Int), n < 128 ^ (d + 1) → d ≤ 7 → xs.length + d < 100 → d < k →
    spec_Var.l0 k (n : Int) xs = some (strOfNums (xs ++ varN n)) := by
  intro d
  induction d with
  | zero =>
    intro k n xs h0 h7 h1 hk
    obtain ⟨k, rfl⟩ : ∃ m, k = m + 1 := ⟨k - 1, by omega⟩
    simp only [spec_Var.l0]
    rw [if_neg (by omega), if_pos (by omega), varN_lt (by omega), show (n : Int) % 256 = n by omega]
  | succ d ih =>
    intro k n xs h0 h7 h1 hk
    obtain ⟨k, rfl⟩ : ∃ m, k = m + 1 := ⟨k - 1, by omega⟩
    simp only [spec_Var.l0]
    have hb : n < 128 ^ 9 := Nat.lt_of_lt_of_le h0 (Nat.pow_le_pow_right (by omega) (by omega))
    by_cases h : n < 128
    · rw [if_neg (by omega), if_pos (by omega), varN_lt h, show (n : Int) % 256 = n by omega]
    · rw [if_pos (by omega), if_pos (by omega), varN_ge h, tdiv_nn (by omega), tmod_nn (by omega), w64 (n := (n : Int) / 128) (by omega) (by omega), w64 (n := 128 + (n : Int) % 128) (by omega) (by omega)]
      have e : (n : Int) / 128 = ((n / 128 : Nat) : Int) := by omega
      rw [e, ih k (n / 128) _ (by rw [pow128] at h0; omega) (by omega) (by simp; omega) (by omega)]
      have e2 : (128 + (n : Int) % 128) % 256 = ((n % 128 + 128 : Nat) : Int) := by omega
      rw [e2]; simp

theorem spec_Var_f (n : Int) (k : Nat) (hk : 8 < k) : spec_Var.f k n = some (strOfNums (varM n)) := by
  unfold spec_Var.f varM
  rw [spec_l1In_run]; simp only [Option.bind_some, decide_eq_true_eq]
  by_cases h : 0 ≤ n ∧ n ≤ 562949953421311
  · rw [if_pos h, if_pos h]
    have := spec_Var_run 6 k n.toNat [] (by omega) (by omega) (by simp) (by omega)
    rw [show ((n.toNat : Nat) : Int) = n by omega] at this
    rw [this]; rfl
  · rw [if_neg h, if_neg h]; rfl

theorem impl_Var_run : ∀ (d k n : Nat) (xs : List Int), n < 128 ^ (d + 1) → d ≤ 7 → xs.length + d < 100 → d < k →
    impl_Var.l0 k (n : Int) xs = some (strOfNums (xs ++ varN n)) := by
  intro d
  induction d with
  | zero =>
    intro k n xs h0 h7 h1 hk
    obtain ⟨k, rfl⟩ : ∃ m, k = m + 1 := ⟨k - 1, by omega⟩
    simp only [impl_Var.l0]
    rw [if_neg (by omega), if_pos (by omega), varN_lt (by omega), show (n : Int) % 256 = n by omega]
  | succ d ih =>
    intro k n xs h0 h7 h1 hk
    obtain ⟨k, rfl⟩ : ∃ m, k = m + 1 := ⟨k - 1, by omega⟩
    simp only [impl_Var.l0]
    have hb : n < 128 ^ 9 := Nat.lt_of_lt_of_le h0 (Nat.pow_le_pow_right (by omega) (by omega))
    by_cases h : n < 128
    · rw [if_neg (by omega), if_pos (by omega), varN_lt h, show (n : Int) % 256 = n by omega]
    · rw [if_pos (by omega), if_pos (by omega), varN_ge h, tdiv_nn (by omega), tmod_nn (by omega), w64 (n := (n : Int) / 128) (by omega) (by omega), w64 (n := (n : Int) % 128 + 128) (by omega) (by omega)]
      have e : (n : Int) / 128 = ((n / 128 : Nat) : Int) := by omega
      rw [e, ih k (n / 128) _ (by rw [pow128] at h0; omega) (by omega) (by simp; omega) (by omega)]
      have e2 : ((n : Int) % 128 + 128) % 256 = ((n % 128 + 128 : Nat) : Int) := by omega
      rw [e2]; simp

theorem impl_Var_f (n : Int) (k : Nat) (hk : 8 < k) : impl_Var.f k n = some (strOfNums (varM n)) := by
  unfold impl_Var.f varM
  rw [impl_from_run]; simp only [Option.bind_some, decide_eq_true_eq]
  by_cases h : 0 ≤ n ∧ n ≤ 562949953421311
  · rw [if_pos h, if_pos h]
    have := impl_Var_run 6 k n.toNat [] (by omega) (by omega) (by simp) (by omega)
    rw [show ((n.toNat : Nat) : Int) = n by omega] at this
    rw [this]; rfl
  · rw [if_neg h, if_neg h]; rfl

/-! zigzag -/
theorem spec_ZigZag_run (n : Int) : spec_ZigZag.f n = some (zigM n) := by
  unfold spec_ZigZag.f
  rw [spec_l1In_run]; simp only [Option.bind_some, zigM, decide_eq_true_eq]
  by_cases h : -140737488355328 ≤ n ∧ n ≤ 140737488355328
  · rw [if_pos h, if_pos h]
    by_cases h0 : n < 0
    · rw [if_pos h0, if_pos h0, w64 (n := (-2) * n) (by omega) (by omega), w64 (by omega) (by omega)]
    · rw [if_neg h0, if_neg h0, w64 (by omega) (by omega)]
  · rw [if_neg h, if_neg h]

theorem impl_ZigZag_run (n : Int) : impl_ZigZag.f n = some (zigM n) := by
  unfold impl_ZigZag.f
  rw [impl_from_run, impl_from_run]; simp only [Option.bind_some, zigM, decide_eq_true_eq]
  by_cases h : 0 ≤ n ∧ n ≤ 140737488355328
  · rw [if_pos h, if_pos (by omega), if_neg (by omega), w64 (by omega) (by omega)]
  · rw [if_neg h]
    by_cases h2 : -140737488355328 ≤ n ∧ n ≤ -1
    · rw [if_pos h2, if_pos (by omega), if_pos (by omega), w64 (n := (-2) * n) (by omega) (by omega), w64 (by omega) (by omega)]
    · rw [if_neg h2, if_neg (by omega)]

/-! and back -/
def unzM (z : Int) : Int × Bool := if 0 ≤ z ∧ z ≤ 281474976710656 then (if z % 2 = 1 then (-(z / 2) - 1, true) else (z / 2, true)) else (0, false)
theorem spec_UnZig_run (z : Int) (k : Nat) (hk : 0 < k) : spec_UnZig.f k z = some (unzM z) := by
  obtain ⟨k, rfl⟩ : ∃ m, k = m + 1 := ⟨k - 1, by omega⟩
  unfold spec_UnZig.f
  simp only [spec_UnZig.j0, unzM, spec_ZigZag_run, Option.bind_some, decide_eq_true_eq]
  by_cases h : z < 0
  · rw [if_pos h, if_pos trivial, if_neg (by omega)]
  · rw [if_neg h]
    by_cases h2 : z > 281474976710656
    · rw [if_pos h2, if_neg (by omega)]
    · rw [if_neg h2, if_pos (show 0 ≤ z ∧ z ≤ 281474976710656 by omega), tmod_nn (a := z) (by omega), tdiv_nn (a := z) (by omega)]
      by_cases h3 : z % 2 = 1
      · rw [if_pos h3, if_pos h3, w64 (n := z / 2) (by omega) (by omega), w64 (n := -(z / 2)) (by omega) (by omega), w64 (by omega) (by omega)]
        have : zigM (-(z / 2) - 1) = z := by unfold zigM; rw [if_pos (by omega), if_pos (by omega)]; omega
        rw [this]; simp
      · rw [if_neg h3, if_neg h3, w64 (by omega) (by omega)]
        have : zigM (z / 2) = z := by unfold zigM; rw [if_pos (by omega), if_neg (by omega)]; omega
        rw [this]; simp

theorem impl_UnZig_run (z : Int) : impl_UnZig.f z = some (unzM z) := by
  unfold impl_UnZig.f
  rw [impl_from_run]; simp only [Option.bind_some, unzM, decide_eq_true_eq]
  by_cases h : 0 ≤ z ∧ z ≤ 281474976710656
  · rw [if_pos h, if_pos h, tmod_nn (by omega)]
    by_cases h3 : z % 2 = 1
    · rw [if_pos h3, if_pos h3, w64 (n := z + 1) (by omega) (by omega), w64 (n := -(z + 1)) (by omega) (by omega)]
      have : Int.tdiv (-(z + 1)) 2 = -(z / 2) - 1 := by rw [Int.neg_tdiv, tdiv_nn (by omega)]; omega
      rw [this, w64 (by omega) (by omega)]
    · rw [if_neg h3, if_neg h3, tdiv_nn (by omega), w64 (by omega) (by omega)]
  · rw [if_neg h, if_neg h]

/-! ReadVar -/
theorem varN_cons_ge {b : Int} {t : List Int} (hb : Byt (b :: t)) (h : b ≥ 128) (ht : varN (le7 t) = t) (hne : le7 t ≠ 0) : varN (le7 (b :: t)) = b :: t := by
  obtain ⟨⟨h0, h1⟩, _⟩ := byt_cons.1 hb
  rw [le7, varN_ge (by omega)]
  congr 1
  · omega
  · rw [show ((b % 128).toNat + 128 * le7 t) / 128 = le7 t by omega, ht]

/-- The text of a number: all bytes but the last are 128 or more, the last is below 128 and, behind another, not 0. -/
theorem varN_shape (n : Nat) : ∃ (a : List Int) (c : Int), varN n = a ++ [c] ∧ (∀ x ∈ a, x ≥ 128) ∧ c < 128 ∧ (a = [] ∨ c ≠ 0) := by
  induction n using Nat.strongRecOn with
  | _ n ih =>
    by_cases h : n < 128
    · exact ⟨[], (n : Int), by rw [varN_lt h]; rfl, by simp, by omega, .inl rfl⟩
    · obtain ⟨a, c, h1, h2, h3, h4⟩ := ih (n / 128) (by omega)
      refine ⟨((n % 128 + 128 : Nat) : Int) :: a, c, by rw [varN_ge h, h1]; rfl, ?_, h3, .inr ?_⟩
      · intro x hx
        rcases List.mem_cons.1 hx with rfl | hx
        · omega
        · exact h2 x hx
      · rcases h4 with rfl | h4
        · have h5 : varN (n / 128) = [c] := h1
          have h6 := le7_varN (n / 128)
          rw [h5] at h6
          intro hc
          rw [hc] at h6
          simp [le7] at h6
          omega
        · exact h4

theorem varN_back : ∀ (a : List Int) (c : Int), Byt (a ++ [c]) → (∀ x ∈ a, x ≥ 128) → c < 128 → (a = [] ∨ c ≠ 0) → varN (le7 (a ++ [c])) = a ++ [c]
  | [], c, hb, _, hc, _ => by
    obtain ⟨⟨h0, h1⟩, _⟩ := byt_cons.1 hb
    have : le7 ([] ++ [c]) = c.toNat := by simp [le7]; omega
    rw [this, varN_lt (by omega)]
    simp; omega
  | b :: a, c, hb, ha, hc, h0 => by
    have hc0 : c ≠ 0 := by rcases h0 with h0 | h0; · cases h0
                           · exact h0
    have hb2 := (byt_cons.1 hb).2
    have ih := varN_back a c hb2 (fun x hx => ha x (List.mem_cons_of_mem _ hx)) hc (.inr hc0)
    refine varN_cons_ge hb (ha b (List.mem_cons_self)) ih (fun h => ?_)
    have h7 : varN 0 = a ++ [c] := by rw [← h]; exact ih
    rw [varN_lt (by omega)] at h7
    cases a with
    | nil => simp at h7; omega
    | cons x y => simp at h7

theorem snoc_inj {a a' : List Int} {c c' : Int} (h : a ++ [c] = a' ++ [c']) : a = a' ∧ c = c' := by
  have := List.append_inj' h rfl
  exact ⟨this.1, by simpa using this.2⟩

/-- le7 over the bytes from behind, as the reference reads them. -/
theorem le7_snoc : ∀ (l : List Int) (b : Int), le7 (l ++ [b]) = le7 l + 128 ^ l.length * (b % 128).toNat
  | [], b => by simp [le7]
  | x :: l, b => by
    rw [List.cons_append, le7, le7_snoc l b, le7, List.length_cons, pow128, Nat.mul_add]
    have : 128 * (128 ^ l.length * (b % 128).toNat) = 128 ^ l.length * 128 * (b % 128).toNat := by
      rw [← Nat.mul_assoc, Nat.mul_comm 128 (128 ^ l.length)]
    omega

theorem spec_ReadVar_inner (s : ByteArray) (x4 : Int) (h4 : x4 ≤ 7) (h5 : x4 ≤ (s.size : Int)) : ∀ (d k : Nat) (i : Int), -1 ≤ i → i + 1 = d → d ≤ x4 → d < k →
    spec_ReadVar.l1 k s x4 (le7 (((bytesOf s).take x4.toNat).drop d) : Int) i =
      (spec_Var.f (k - d - 1) (le7 ((bytesOf s).take x4.toNat) : Int)).bind fun t111 => (if 0 ≤ x4 then (if x4 ≤ (s.size : Int) then (if t111.toList = (s.extract 0 (x4 : Int).toNat).toList then (some ((le7 ((bytesOf s).take x4.toNat) : Int), x4)) else (spec_ReadVar.l0 (k - d - 1) s (wrap64 (x4 + 1)))) else (none)) else (none)) := by
  intro d
  induction d with
  | zero =>
    intro k i h0 h1 h2 hk
    obtain ⟨k, rfl⟩ : ∃ m, k = m + 1 := ⟨k - 1, by omega⟩
    simp only [spec_ReadVar.l1]
    rw [if_neg (by omega), List.drop_zero]
    simp
  | succ d ih =>
    intro k i h0 h1 h2 hk
    obtain ⟨k, rfl⟩ : ∃ m, k = m + 1 := ⟨k - 1, by omega⟩
    have hi : i = d := by omega
    subst hi
    obtain ⟨c0, c1⟩ := bt_range s (d : Int)
    have hd : ((bytesOf s).take x4.toNat).drop d = bt s (d : Int) :: ((bytesOf s).take x4.toNat).drop (d + 1) := by
      have hlt : d < ((bytesOf s).take x4.toNat).length := by rw [List.length_take, bytesOf_length]; omega
      rw [List.drop_eq_getElem_cons hlt]
      congr 1
      have h3 := bt_get (s := s) (i := (d : Int)) (by omega) (by omega)
      rw [show ((d : Int)).toNat = d by omega] at h3
      rw [List.getElem_take]
      exact Option.some.inj ((List.getElem?_eq_getElem _).symm.trans h3)
    have hb := le7_bound (((bytesOf s).take x4.toNat).drop (d + 1))
    have hl : (((bytesOf s).take x4.toNat).drop (d + 1)).length ≤ 6 := by rw [List.length_drop, List.length_take]; omega
    have hb2 : le7 (((bytesOf s).take x4.toNat).drop (d + 1)) < 128 ^ 6 := Nat.lt_of_lt_of_le hb (Nat.pow_le_pow_right (by omega) hl)
    simp only [spec_ReadVar.l1]
    rw [if_pos (by omega), if_pos (by omega), if_pos (by omega), w64 (n := bt s (d : Int)) (by omega) (by omega), tmod_nn c0, w64 (n := _ * 128) (by omega) (by omega), w64 (n := _ + _) (by omega) (by omega), w64 (n := (d : Int) - 1) (by omega) (by omega)]
    have e : ((le7 (((bytesOf s).take x4.toNat).drop (d + 1)) : Int) * 128 + bt s (d : Int) % 128) = (le7 (((bytesOf s).take x4.toNat).drop d) : Int) := by
      rw [hd, le7]; omega
    rw [e, ih k ((d : Int) - 1) (by omega) (by omega) (by omega) (by omega), show k + 1 - (d + 1) - 1 = k - d - 1 by omega]

/-- Some byte ahead of the last is below 128: no text of a number begins so. -/
theorem spec_ReadVar_none (s : ByteArray) (p : Nat) (hp : p < s.size) (hlow : bt s (p : Int) < 128) : ∀ (d k : Nat) (x4 : Int), (p : Int) + 1 < x4 → x4 + d = 8 → 30 * d + 30 < k →
    spec_ReadVar.l0 k s x4 = some (0, 0) := by
  intro d
  induction d with
  | zero =>
    intro k x4 h0 h1 hk
    obtain ⟨k, rfl⟩ : ∃ m, k = m + 2 := ⟨k - 2, by omega⟩
    simp only [spec_ReadVar.l0]
    rw [if_neg (by omega)]
    simp only [spec_ReadVar.j1]; rfl
  | succ d ih =>
    intro k x4 h0 h1 hk
    obtain ⟨k, rfl⟩ : ∃ m, k = m + 2 := ⟨k - 2, by omega⟩
    simp only [spec_ReadVar.l0]
    rw [if_pos (by omega)]
    simp only [spec_ReadVar.j1, decide_eq_true_eq]
    by_cases hs : x4 ≤ (s.size : Int)
    · rw [if_pos hs, w64 (n := x4 - 1) (by omega) (by omega)]
      have h9 := spec_ReadVar_inner s x4 (by omega) hs x4.toNat k (x4 - 1) (by omega) (by omega) (by omega) (by omega)
      rw [List.drop_of_length_le (by rw [List.length_take]; omega)] at h9
      rw [show ((le7 ([] : List Int) : Nat) : Int) = 0 from rfl] at h9
      rw [h9, spec_Var_f _ _ (by omega)]
      simp only [Option.bind_some]
      have hb := le7_bound ((bytesOf s).take x4.toNat)
      have hl : ((bytesOf s).take x4.toNat).length ≤ 7 := by rw [List.length_take]; omega
      have hb2 : le7 ((bytesOf s).take x4.toNat) < 128 ^ 7 := Nat.lt_of_lt_of_le hb (Nat.pow_le_pow_right (by omega) hl)
      rw [if_pos (by omega), if_pos hs, if_neg, w64 (n := x4 + 1) (by omega) (by omega), ih _ _ (by omega) (by omega) (by omega)]
      rw [toList_eq_iff]
      intro h
      have h := congrArg bytesOf h
      rw [bytesOf_strOfNums (varM_byt _), bytesOf_extract, List.drop_zero] at h
      unfold varM at h
      rw [if_pos (by omega)] at h
      obtain ⟨a, c, g1, g2, g3, g4⟩ := varN_shape (le7 ((bytesOf s).take x4.toNat))
      rw [show ((le7 ((bytesOf s).take x4.toNat) : Nat) : Int).toNat = le7 ((bytesOf s).take x4.toNat) by omega, g1] at h
      have hlen : a.length + 1 = x4.toNat := by
        have := congrArg List.length h
        rw [List.length_append, List.length_take, bytesOf_length] at this
        simp at this; omega
      have h3 := bt_get (s := s) (i := (p : Int)) (by omega) (by omega)
      rw [show ((p : Int)).toNat = p by omega] at h3
      have h4 : ((bytesOf s).take x4.toNat)[p]? = some (bt s (p : Int)) := by rw [List.getElem?_take_of_lt (by omega)]; exact h3
      rw [← h, List.getElem?_append_left (by omega)] at h4
      have := g2 _ (List.mem_of_getElem? h4)
      omega
    · rw [if_neg hs]

theorem spec_ReadVar_run (s : ByteArray) : ∀ (d k : Nat) (x4 : Int), 1 ≤ x4 → x4 + d = 8 → (∀ j : Nat, j + 1 < x4 → j < s.size → bt s (j : Int) ≥ 128) → (x4 - 1 ≤ (s.size : Int)) → 30 * d + 60 < k →
    spec_ReadVar.l0 k s x4 = some (rv ((bytesOf s).drop (x4 - 1).toNat) (x4 - 1).toNat (le7 ((bytesOf s).take (x4 - 1).toNat))) := by
  intro d
  induction d with
  | zero =>
    intro k x4 h0 h1 hj hsz hk
    obtain ⟨k, rfl⟩ : ∃ m, k = m + 2 := ⟨k - 2, by omega⟩
    simp only [spec_ReadVar.l0]
    rw [if_neg (by omega)]
    simp only [spec_ReadVar.j1]
    cases (bytesOf s).drop (x4 - 1).toNat with
    | nil => rfl
    | cons b t => rw [rv, if_neg (show ¬ (x4 - 1).toNat < 7 by omega)]; rfl
  | succ d ih =>
    intro k x4 h0 h1 hj hsz hk
    obtain ⟨k, rfl⟩ : ∃ m, k = m + 2 := ⟨k - 2, by omega⟩
    simp only [spec_ReadVar.l0]
    rw [if_pos (by omega)]
    simp only [spec_ReadVar.j1, decide_eq_true_eq]
    by_cases hs : x4 ≤ (s.size : Int)
    · rw [if_pos hs, w64 (n := x4 - 1) (by omega) (by omega)]
      have h9 := spec_ReadVar_inner s x4 (by omega) hs x4.toNat k (x4 - 1) (by omega) (by omega) (by omega) (by omega)
      rw [List.drop_of_length_le (by rw [List.length_take]; omega)] at h9
      rw [show ((le7 ([] : List Int) : Nat) : Int) = 0 from rfl] at h9
      rw [h9, spec_Var_f _ _ (by omega)]
      simp only [Option.bind_some]
      have hb := le7_bound ((bytesOf s).take x4.toNat)
      have hl : ((bytesOf s).take x4.toNat).length ≤ 7 := by rw [List.length_take]; omega
      have hb2 : le7 ((bytesOf s).take x4.toNat) < 128 ^ 7 := Nat.lt_of_lt_of_le hb (Nat.pow_le_pow_right (by omega) hl)
      have hlt : x4 - 1 < (s.size : Int) := by omega
      have ht := bt_take (s := s) (i := x4 - 1) (by omega) hlt
      rw [show (x4 - 1).toNat + 1 = x4.toNat by omega] at ht
      have hdr := bt_drop (s := s) (i := x4 - 1) (by omega) hlt
      obtain ⟨c0, c1⟩ := bt_range s (x4 - 1)
      rw [if_pos (by omega), if_pos hs, w64 (n := x4 + 1) (by omega) (by omega), hdr, rv, if_pos (show (x4 - 1).toNat < 7 by omega)]
      have hle : le7 ((bytesOf s).take x4.toNat) = le7 ((bytesOf s).take (x4 - 1).toNat) + 128 ^ (x4 - 1).toNat * (bt s (x4 - 1) % 128).toNat := by
        rw [ht, le7_snoc, List.length_take, bytesOf_length, Nat.min_eq_left (by omega)]
      have hlei : (le7 ((bytesOf s).take x4.toNat) : Int) = le7 ((bytesOf s).take (x4 - 1).toNat) + bt s (x4 - 1) % 128 * 128 ^ (x4 - 1).toNat := by
        rw [hle]; push_cast; rw [Int.mul_comm, show (((bt s (x4 - 1) % 128).toNat : Nat) : Int) = bt s (x4 - 1) % 128 by omega]
      have heq : (strOfNums (varM (le7 ((bytesOf s).take x4.toNat) : Int))).toList = (s.extract 0 x4.toNat).toList ↔ varN (le7 ((bytesOf s).take x4.toNat)) = (bytesOf s).take x4.toNat := by
        rw [toList_eq_iff]
        have hv : varM (le7 ((bytesOf s).take x4.toNat) : Int) = varN (le7 ((bytesOf s).take x4.toNat)) := by
          unfold varM; rw [if_pos (by omega), show ((le7 ((bytesOf s).take x4.toNat) : Nat) : Int).toNat = le7 ((bytesOf s).take x4.toNat) by omega]
        constructor
        · intro h
          have h := congrArg bytesOf h
          rwa [bytesOf_strOfNums (varM_byt _), bytesOf_extract, List.drop_zero, hv] at h
        · intro h
          apply bytesOf_inj
          rw [bytesOf_strOfNums (varM_byt _), bytesOf_extract, List.drop_zero, hv, h]
      have hall : ∀ x ∈ (bytesOf s).take (x4 - 1).toNat, x ≥ 128 := by
        intro x hx
        obtain ⟨j, hj1, hj2⟩ := List.mem_iff_getElem.1 hx
        rw [List.length_take, bytesOf_length] at hj1
        have h3 := bt_get (s := s) (i := (j : Int)) (by omega) (by omega)
        rw [show ((j : Int)).toNat = j by omega] at h3
        rw [List.getElem_take] at hj2
        have h6 : x = bt s (j : Int) := by rw [← hj2]; exact Option.some.inj ((List.getElem?_eq_getElem _).symm.trans h3)
        rw [h6]
        exact hj j (by omega) (by omega)
      have hbyt : Byt ((bytesOf s).take (x4 - 1).toNat ++ [bt s (x4 - 1)]) := by rw [← ht]; exact byt_take (byt_bytesOf s) _
      by_cases hhi : bt s (x4 - 1) ≥ 128
      · rw [if_pos hhi, if_neg, ih _ _ (by omega) (by omega) ?_ (by omega) (by omega), show (x4 + 1 - 1).toNat = x4.toNat by omega, ← hlei, show (x4 - 1).toNat + 1 = x4.toNat by omega]
        · intro j hj1 hj2
          by_cases hjx : (j : Int) + 1 < x4
          · exact hj j hjx hj2
          · have : (j : Int) = x4 - 1 := by omega
            rw [this]; exact hhi
        · rw [heq, ht]
          intro h
          obtain ⟨a, c, g1, g2, g3, g4⟩ := varN_shape (le7 ((bytesOf s).take (x4 - 1).toNat ++ [bt s (x4 - 1)]))
          rw [g1] at h
          have := (snoc_inj h).2
          omega
      · rw [if_neg hhi]
        by_cases hz : bt s (x4 - 1) = 0 ∧ (x4 - 1).toNat > 0
        · rw [if_pos hz, if_neg]
          · by_cases hd : d = 0
            · subst hd
              obtain ⟨q, hq⟩ : ∃ m, k - x4.toNat - 1 = m + 2 := ⟨k - x4.toNat - 3, by omega⟩
              rw [hq]
              simp only [spec_ReadVar.l0]
              rw [if_neg (by omega)]
              simp only [spec_ReadVar.j1]; rfl
            · exact spec_ReadVar_none s (x4 - 1).toNat (by omega) (by rw [show (((x4 - 1).toNat : Nat) : Int) = x4 - 1 by omega]; omega) d _ _ (by omega) (by omega) (by omega)
          · rw [heq, ht]
            intro h
            obtain ⟨a, c, g1, g2, g3, g4⟩ := varN_shape (le7 ((bytesOf s).take (x4 - 1).toNat ++ [bt s (x4 - 1)]))
            rw [g1] at h
            obtain ⟨k1, k2⟩ := snoc_inj h
            rcases g4 with g4 | g4
            · rw [g4] at k1
              have := congrArg List.length k1
              rw [List.length_take, bytesOf_length] at this
              simp at this
              omega
            · omega
        · rw [if_neg hz, if_pos, hlei]
          · congr 1; congr 1; omega
          · rw [heq, ht]
            refine varN_back _ _ hbyt hall (by omega) ?_
            by_cases hx1 : (x4 - 1).toNat = 0
            · left; rw [hx1]; rfl
            · right; intro h; exact hz ⟨h, by omega⟩
    · rw [if_neg hs, List.drop_of_length_le (by rw [bytesOf_length]; omega)]; rfl

theorem spec_ReadVar_f (s : ByteArray) (k : Nat) (hk : 300 < k) : spec_ReadVar.f k s = some (rv (bytesOf s) 0 0) := by
  unfold spec_ReadVar.f
  have := spec_ReadVar_run s 7 k 1 (by omega) (by omega) (fun j h => by omega) (by omega) (by omega)
  exact this

theorem pow128i (d : Nat) : (128 : Int) ^ (d + 1) = 128 ^ d * 128 := Int.pow_succ 128 d
theorem mul_pow_le {b p q : Int} (b0 : 0 ≤ b) (b1 : b ≤ 127) (hp : 0 ≤ p) (hq : p ≤ q) : 0 ≤ b * p ∧ b * p ≤ 127 * q := by
  refine ⟨Int.mul_nonneg b0 hp, ?_⟩
  exact Int.le_trans (Int.mul_le_mul_of_nonneg_right b1 hp) (by omega)
theorem impl_ReadVar_run (s : ByteArray) : ∀ (d k : Nat) (i n : Int), 0 ≤ i → i + d = 7 → 0 ≤ n → n < 128 ^ i.toNat → 2 * d + 2 < k →
    impl_ReadVar.l0 k s n i = some (rv ((bytesOf s).drop i.toNat) i.toNat n) := by
  intro d
  induction d with
  | zero =>
    intro k i n h0 h1 n0 n1 hk
    obtain ⟨k, rfl⟩ : ∃ m, k = m + 2 := ⟨k - 2, by omega⟩
    simp only [impl_ReadVar.l0]
    rw [if_neg (by omega)]
    simp only [impl_ReadVar.j1]
    cases (bytesOf s).drop i.toNat with
    | nil => rfl
    | cons b t => rw [rv, if_neg (show ¬ i.toNat < 7 by omega)]; rfl
  | succ d ih =>
    intro k i n h0 h1 n0 n1 hk
    obtain ⟨k, rfl⟩ : ∃ m, k = m + 2 := ⟨k - 2, by omega⟩
    simp only [impl_ReadVar.l0]
    rw [if_pos (by omega)]
    simp only [impl_ReadVar.j1, decide_eq_true_eq]
    by_cases hs : i < (s.size : Int)
    · obtain ⟨c0, c1⟩ := bt_range s i
      have hp : (0 : Int) < 128 ^ i.toNat := Int.pow_pos (by omega)
      have hq : (128 : Int) ^ i.toNat ≤ 4398046511104 := by
        have h : i = 0 ∨ i = 1 ∨ i = 2 ∨ i = 3 ∨ i = 4 ∨ i = 5 ∨ i = 6 := by omega
        rcases h with rfl | rfl | rfl | rfl | rfl | rfl | rfl <;> decide
      obtain ⟨m0, m1⟩ := mul_pow_le (b := bt s i % 128) (by omega) (by omega) (Int.le_of_lt hp) (Int.le_refl _)
      rw [if_pos hs, if_pos h0, if_pos hs, w64 (n := 7 * i) (by omega) (by omega), if_pos (by omega), tmod_nn c0, w64 (n := bt s i % 128) (by omega) (by omega), shl7 (by omega) (by omega) h0 (by omega), w64 (n := n + _) (by omega) (by omega), w64 (n := i + 1) (by omega) (by omega), bt_drop h0 hs, rv, if_pos (show i.toNat < 7 by omega)]
      by_cases hhi : bt s i ≥ 128
      · rw [if_pos hhi, if_pos hhi, ih _ _ _ (by omega) (by omega) (by omega) (by rw [show (i + 1).toNat = i.toNat + 1 by omega, pow128i]; omega) (by omega), show (i + 1).toNat = i.toNat + 1 by omega]
      · rw [if_neg hhi, if_neg hhi]
        have e1 : i + 1 = ((i.toNat + 1 : Nat) : Int) := by omega
        have e2 : i + 1 = ((i.toNat : Nat) : Int) + 1 := by omega
        by_cases hz : bt s i = 0
        · rw [if_pos hz]
          by_cases hi : i > 0
          · rw [if_pos hi, if_pos ⟨hz, by omega⟩]
          · rw [if_neg hi, if_neg (by omega), e2]
        · rw [if_neg hz, if_neg (by omega), e2]
    · rw [if_neg hs, List.drop_of_length_le (by rw [bytesOf_length]; omega)]; rfl

theorem impl_ReadVar_f (s : ByteArray) (k : Nat) (hk : 20 < k) : impl_ReadVar.f k s = some (rv (bytesOf s) 0 0) := by
  unfold impl_ReadVar.f
  exact impl_ReadVar_run s 7 k 0 0 (by omega) (by omega) (by omega) (by decide) (by omega)

/-! ShowTimes -/
theorem rd_at2 (a b : List Int) (p x i : Int) (h : i = a.length + 1) : rd (a ++ p :: x :: b) i = x := by
  rw [List.append_cons]; exact rd_at _ _ _ _ (by rw [List.length_append]; simp only [List.length_singleton]; omega)
theorem rd_at3 (a b : List Int) (p q x i : Int) (h : i = a.length + 2) : rd (a ++ p :: q :: x :: b) i = x := by
  rw [List.append_cons]; exact rd_at2 _ _ _ _ _ (by simp only [List.length_append, List.length_singleton]; omega)

theorem spec_l7Rise_run : ∀ (b a : List Int) (p : Int) (k : Nat), a.length + 1 + b.length ≤ 1048576 → b.length < k → 0 ≤ p →
    spec_l7Rise.l0 k (a ++ p :: b) ((a.length : Int) + 1) = some (risM p b) := by
  intro b
  induction b with
  | nil =>
    intro a p k h0 hk hp
    obtain ⟨q, rfl⟩ : ∃ m, k = m + 1 := ⟨k - 1, by omega⟩
    simp only [spec_l7Rise.l0]; rw [if_neg (by simp)]; rfl
  | cons x b ih =>
    intro a p k h0 hk hp
    simp only [List.length_cons] at h0 hk
    obtain ⟨q, rfl⟩ : ∃ m, k = m + 1 := ⟨k - 1, by omega⟩
    simp only [spec_l7Rise.l0]
    rw [if_pos (by simp; omega), if_pos (by omega), rd_at2 _ _ _ _ _ rfl, spec_l1In_run, w64 (n := (a.length : Int) + 1 - 1) (by omega) (by omega), rd_at _ _ _ _ (show (a.length : Int) + 1 - 1 = a.length by omega)]
    simp only [Option.bind_some, decide_eq_true_eq, risM]
    by_cases hx : 0 ≤ x ∧ x ≤ 1099511627776
    · rw [if_pos hx, if_pos (by omega), if_pos (by omega), if_pos (by simp; omega)]
      by_cases hp2 : p ≥ x
      · rw [if_pos hp2, decide_eq_false (by omega), Bool.false_and]
      · have f := ih (a ++ [p]) x q (by simp; omega) (by omega) hx.1
        rw [← List.append_cons, show (((a ++ [p]).length : Nat) : Int) = (a.length : Int) + 1 by simp] at f
        rw [if_neg hp2, w64 (n := (a.length : Int) + 1 + 1) (by omega) (by omega), f, decide_eq_true (show p < x ∧ 0 ≤ x ∧ x ≤ 1099511627776 by omega), Bool.true_and]
    · rw [if_neg hx, decide_eq_false (by omega), Bool.false_and]
theorem spec_l7Rise_f (l : List Int) (k : Nat) (hk : 70 < k) : spec_l7Rise.f k l = some (decide (1 ≤ (l.length : Int) ∧ (l.length : Int) ≤ 60) && riseM l) := by
  unfold spec_l7Rise.f
  rw [spec_l1In_run]
  simp only [Option.bind_some, decide_eq_true_eq]
  by_cases h : 1 ≤ (l.length : Int) ∧ (l.length : Int) ≤ 60
  · rw [if_pos h, decide_eq_true h, Bool.true_and]
    cases l with
    | nil => simp at h
    | cons t r =>
      simp only [List.length_cons] at h
      obtain ⟨q, rfl⟩ : ∃ m, k = m + 1 := ⟨k - 1, by omega⟩
      simp only [spec_l7Rise.l0]
      have e0 : rd (t :: r) 0 = t := rfl
      rw [if_pos (by simp only [List.length_cons]; omega), if_pos (by omega), e0, spec_l1In_run]
      simp only [Option.bind_some, decide_eq_true_eq, riseM]
      by_cases ht : 0 ≤ t ∧ t ≤ 1099511627776
      · have f := spec_l7Rise_run r [] t q (by simp; omega) (by omega) ht.1
        simp only [List.nil_append, List.length_nil] at f
        rw [if_pos ht, if_neg (by omega), w64 (by omega) (by omega), decide_eq_true ht, Bool.true_and]
        exact f
      · rw [if_neg ht, decide_eq_false ht, Bool.false_and]
  · rw [if_neg h, decide_eq_false h, Bool.false_and]

theorem risM_cons {p x : Int} {b : List Int} (h : risM p (x :: b) = true) : (p < x ∧ 0 ≤ x ∧ x ≤ 1099511627776) ∧ risM x b = true := by
  simp only [risM, Bool.and_eq_true, decide_eq_true_eq] at h
  exact h
theorem spec_ShowTimes_run2 : ∀ (b a : List Int) (p q : Int) (k : Nat) (s : List Int), a.length + 2 + b.length ≤ 60 → s.length ≤ 7 * (a.length + 2) → 0 ≤ p → p ≤ 1099511627776 → 0 ≤ q → q ≤ 1099511627776 → risM q b = true → b.length + 10 < k →
    spec_ShowTimes.l0 k (a ++ p :: q :: b) (strOfNums s) ((a.length : Int) + 2) = some (strOfNums (s ++ tim2 p q b)) := by
  intro b
  induction b with
  | nil =>
    intro a p q k s h0 hs p0 p1 q0 q1 hv hk
    obtain ⟨f, rfl⟩ : ∃ m, k = m + 1 := ⟨k - 1, by omega⟩
    simp only [spec_ShowTimes.l0]; rw [if_neg (by simp)]; simp [tim2]
  | cons x b ih =>
    intro a p q k s h0 hs p0 p1 q0 q1 hv hk
    simp only [List.length_cons] at h0 hk
    obtain ⟨⟨x0, x1, x2⟩, hv2⟩ := risM_cons hv
    obtain ⟨f, rfl⟩ : ∃ m, k = m + 1 := ⟨k - 1, by omega⟩
    have lv := varM_length (zigM (x - q - (q - p)))
    have g := ih (a ++ [p]) q x f (s ++ varM (zigM (x - q - (q - p)))) (by simp; omega) (by simp; omega) q0 q1 x1 x2 hv2 (by omega)
    rw [← List.append_cons, show (((a ++ [p]).length : Nat) : Int) = (a.length : Int) + 1 by simp] at g
    simp only [spec_ShowTimes.l0]
    rw [if_pos (by simp; omega), if_pos (by omega), w64 (n := (a.length : Int) + 2 - 1) (by omega) (by omega), w64 (n := (a.length : Int) + 2 - 2) (by omega) (by omega), if_pos (by omega), if_pos (by simp; omega), if_neg (by omega), if_pos (by omega), if_pos (by simp; omega), rd_at3 _ _ _ _ _ _ rfl, rd_at2 _ _ _ _ _ (show (a.length : Int) + 2 - 1 = a.length + 1 by omega), rd_at _ _ _ _ (show (a.length : Int) + 2 - 2 = a.length by omega), w64 (n := x - q) (by omega) (by omega), w64 (n := q - p) (by omega) (by omega), w64 (n := x - q - (q - p)) (by omega) (by omega), spec_ZigZag_run]
    simp only [Option.bind_some]
    rw [spec_Var_f _ _ (by omega)]
    simp only [Option.bind_some]
    rw [if_pos (by rw [size_strOfNums, size_strOfNums]; omega), w64 (n := (a.length : Int) + 2 + 1) (by omega) (by omega), strOfNums_append, show (a.length : Int) + 2 + 1 = (a.length : Int) + 1 + 2 by omega, g, tim2, List.append_assoc]
theorem spec_ShowTimes_f (l : List Int) (k : Nat) (hk : 100 < k) : spec_ShowTimes.f k l = some (strOfNums (showTimM l)) := by
  unfold spec_ShowTimes.f showTimM
  rw [spec_l7Rise_f _ _ (by omega)]
  simp only [Option.bind_some]
  by_cases h : 1 ≤ (l.length : Int) ∧ (l.length : Int) ≤ 60
  · rw [decide_eq_true h, Bool.true_and]
    by_cases hr : riseM l = true
    · have hc : 1 ≤ (l.length : Int) ∧ (l.length : Int) ≤ 60 ∧ riseM l = true := ⟨h.1, h.2, hr⟩
      rw [if_pos hr, if_pos (show 0 < (l.length : Int) by omega), if_pos hc]
      cases l with
      | nil => simp at h
      | cons t r =>
        simp only [List.length_cons] at h
        simp only [riseM, Bool.and_eq_true, decide_eq_true_eq] at hr
        have e0 : rd (t :: r) 0 = t := rfl
        have lv := varM_length t
        rw [e0, spec_Var_f _ _ (by omega)]
        simp only [Option.bind_some, timM]
        obtain ⟨f, rfl⟩ : ∃ m, k = m + 1 := ⟨k - 1, by omega⟩
        cases r with
        | nil => simp only [spec_ShowTimes.l0]; rw [if_neg (by simp)]; simp [tim1]
        | cons u r =>
          simp only [List.length_cons] at h
          obtain ⟨⟨u0, u1, u2⟩, hv2⟩ := risM_cons hr.2
          have e1 : rd (t :: u :: r) 1 = u := rfl
          have lu := varM_length (u - t)
          have g := spec_ShowTimes_run2 r [] t u f (varM t ++ varM (u - t)) (by simp; omega) (by simp; omega) hr.1.1 hr.1.2 u1 u2 hv2 (by omega)
          simp only [List.nil_append, List.length_nil] at g
          simp only [spec_ShowTimes.l0]
          rw [if_pos (by simp; omega), if_pos (by omega), w64 (n := 1 - 1) (by omega) (by omega), if_pos (by omega), if_pos (by simp; omega), if_pos trivial, e1, show (1 : Int) - 1 = 0 by omega, e0, w64 (n := u - t) (by omega) (by omega), spec_Var_f _ _ (by omega)]
          simp only [Option.bind_some]
          rw [if_pos (by rw [size_strOfNums, size_strOfNums]; omega), w64 (by omega) (by omega), strOfNums_append]
          refine Eq.trans g ?_
          simp [tim1]
    · rw [if_neg hr, if_neg (fun g => hr g.2.2)]; rfl
  · rw [decide_eq_false h, Bool.false_and, if_neg (by decide), if_neg (fun g => h ⟨g.1, g.2.1⟩)]; rfl

theorem impl_zig_ft (n : Int) (k : Nat) (hk : 8 < k) : impl_zig.f k n = some (strOfNums (varM (zigM n))) := by
  unfold impl_zig.f
  rw [impl_ZigZag_run]; simp only [Option.bind_some]; rw [impl_Var_f _ _ hk]; rfl
theorem impl_ShowTimes_end (l : List Int) (k : Nat) (s : ByteArray) : impl_ShowTimes.l0 (k + 1) l s l (l.length : Int) (l.length : Int) = some (if 1 ≤ (l.length : Int) ∧ (l.length : Int) ≤ 60 then s else ⟨#[]⟩) := by
  simp only [impl_ShowTimes.l0]; rw [if_neg (by omega), impl_from_run]
  simp only [Option.bind_some, decide_eq_true_eq]
  split <;> rfl
theorem impl_ShowTimes_run2 : ∀ (b a : List Int) (p q : Int) (k : Nat) (s : List Int), a.length + 2 + b.length ≤ 1048576 → s.length ≤ 7 * (a.length + 2) → 0 ≤ p → p ≤ 1099511627776 → 0 ≤ q → q ≤ 1099511627776 → 2 * b.length + 10 < k →
    impl_ShowTimes.l0 k (a ++ p :: q :: b) (strOfNums s) (a ++ p :: q :: b) ((a ++ p :: q :: b).length : Int) ((a.length : Int) + 2) = some (if 1 ≤ ((a ++ p :: q :: b).length : Int) ∧ ((a ++ p :: q :: b).length : Int) ≤ 60 ∧ risM q b = true then strOfNums (s ++ tim2 p q b) else ⟨#[]⟩) := by
  intro b
  induction b with
  | nil =>
    intro a p q k s h0 hs p0 p1 q0 q1 hk
    obtain ⟨f, rfl⟩ : ∃ m, k = m + 1 := ⟨k - 1, by omega⟩
    have e : (a.length : Int) + 2 = ((a ++ [p, q]).length : Int) := by simp
    rw [e, impl_ShowTimes_end]
    simp only [risM, and_true, tim2, List.append_nil]
  | cons x b ih =>
    intro a p q k s h0 hs p0 p1 q0 q1 hk
    simp only [List.length_cons] at h0 hk
    obtain ⟨f, rfl⟩ : ∃ m, k = m + 2 := ⟨k - 2, by omega⟩
    obtain ⟨g', hg'⟩ : ∃ m, f + 1 = m := ⟨_, rfl⟩
    rw [show f + 2 = g' + 1 by omega]
    have lv := varM_length (zigM (x - q - (q - p)))
    simp only [impl_ShowTimes.l0]
    rw [if_pos (by simp; omega), if_pos (by omega), if_pos (by simp; omega), rd_at3 _ _ _ _ _ _ rfl, impl_from_run, ← hg']
    simp only [Option.bind_some, decide_eq_true_eq]
    by_cases hx : 0 ≤ x ∧ x ≤ 1099511627776
    · rw [if_pos hx, if_pos (show (a.length : Int) + 2 > 0 by omega), w64 (n := (a.length : Int) + 2 - 1) (by omega) (by omega), if_pos (by omega), if_pos (by simp; omega), rd_at2 _ _ _ _ _ (show (a.length : Int) + 2 - 1 = a.length + 1 by omega)]
      simp only [impl_ShowTimes.j1]
      by_cases hq : q ≥ x
      · rw [if_pos (by simpa using hq), if_neg (fun g => by have := g.2.2; simp only [riseM, risM, Bool.and_eq_true, decide_eq_true_eq] at this; omega)]
      · have g := ih (a ++ [p]) q x f (s ++ varM (zigM (x - q - (q - p)))) (by simp; omega) (by simp; omega) q0 q1 hx.1 hx.2 (by omega)
        rw [← List.append_cons, show (((a ++ [p]).length : Nat) : Int) = (a.length : Int) + 1 by simp] at g
        rw [if_neg (by simpa using hq), if_neg (by omega), if_neg (by omega), w64 (n := (a.length : Int) + 2 - 1) (by omega) (by omega), w64 (n := (a.length : Int) + 2 - 2) (by omega) (by omega), if_pos (by omega), if_pos (by simp; omega), if_pos (by omega), if_pos (by simp; omega), rd_at2 _ _ _ _ _ (show (a.length : Int) + 2 - 1 = a.length + 1 by omega), rd_at _ _ _ _ (show (a.length : Int) + 2 - 2 = a.length by omega), w64 (n := x - q) (by omega) (by omega), w64 (n := q - p) (by omega) (by omega), w64 (n := x - q - (q - p)) (by omega) (by omega), impl_zig_ft _ _ (by omega)]
        simp only [Option.bind_some]
        rw [if_pos (by rw [size_strOfNums, size_strOfNums]; omega), w64 (n := (a.length : Int) + 2 + 1) (by omega) (by omega), strOfNums_append, show (a.length : Int) + 2 + 1 = (a.length : Int) + 1 + 2 by omega, g, tim2, List.append_assoc]
        have hT : risM q (x :: b) = risM x b := by simp only [risM, decide_eq_true (show q < x ∧ 0 ≤ x ∧ x ≤ 1099511627776 by omega), Bool.true_and]
        simp only [hT]
    · rw [if_neg hx]
      simp only [impl_ShowTimes.j1]
      rw [if_pos trivial, if_neg (fun g => by have := g.2.2; simp only [riseM, risM, Bool.and_eq_true, decide_eq_true_eq] at this; omega)]
theorem impl_ShowTimes_f (l : List Int) (hl : l.length ≤ 1048576) (k : Nat) (hk : 2097200 < k) : impl_ShowTimes.f k l = some (strOfNums (showTimM l)) := by
  unfold impl_ShowTimes.f showTimM
  cases l with
  | nil =>
    obtain ⟨f, rfl⟩ : ∃ m, k = m + 1 := ⟨k - 1, by omega⟩
    rw [show (0 : Int) = (([] : List Int).length : Int) from rfl, impl_ShowTimes_end]; rfl
  | cons t r =>
    have e0 : rd (t :: r) 0 = t := rfl
    have lt := varM_length t
    obtain ⟨f, rfl⟩ : ∃ m, k = m + 2 := ⟨k - 2, by omega⟩
    obtain ⟨g', hg'⟩ : ∃ m, f + 1 = m := ⟨_, rfl⟩
    rw [show f + 2 = g' + 1 by omega]
    simp only [impl_ShowTimes.l0]
    simp only [List.length_cons] at hl
    rw [if_pos (by simp only [List.length_cons]; omega), if_pos (by omega), if_pos (by simp only [List.length_cons]; omega), e0, impl_from_run, ← hg']
    simp only [Option.bind_some, decide_eq_true_eq]
    by_cases ht : 0 ≤ t ∧ t ≤ 1099511627776
    · rw [if_pos ht, if_neg (show ¬ (0 : Int) > 0 by omega)]
      have hT : riseM (t :: r) = risM t r := by simp only [riseM, decide_eq_true ht, Bool.true_and]
      simp only [hT]
      simp only [impl_ShowTimes.j1]
      rw [if_neg (by decide), if_pos trivial, impl_Var_f _ _ (by omega)]
      simp only [Option.bind_some]
      rw [if_pos (by rw [size_strOfNums]; show 0 + _ ≤ _; omega), w64 (by omega) (by omega), show (⟨#[]⟩ : ByteArray) ++ strOfNums (varM t) = strOfNums (varM t) from by rw [show (⟨#[]⟩ : ByteArray) = strOfNums [] from rfl, strOfNums_append]; rfl, show (0 : Int) + 1 = 1 by omega]
      cases r with
      | nil =>
        obtain ⟨f, rfl⟩ : ∃ m, f = m + 1 := ⟨f - 1, by omega⟩
        have := impl_ShowTimes_end [t] f (strOfNums (varM t))
        refine Eq.trans this ?_
        rw [if_pos (by simp), if_pos (by simp [risM])]; simp [timM, tim1]
      | cons u r =>
        have e1 : rd (t :: u :: r) 1 = u := rfl
        have lu := varM_length (u - t)
        simp only [List.length_cons] at hl
        obtain ⟨f2, rfl⟩ : ∃ m, f = m + 2 := ⟨f - 2, by omega⟩
        obtain ⟨g2, hg2⟩ : ∃ m, f2 + 1 = m := ⟨_, rfl⟩
        rw [show f2 + 2 = g2 + 1 by omega]
        simp only [impl_ShowTimes.l0]
        rw [if_pos (by simp; omega), if_pos (by omega), if_pos (by simp; omega), e1, impl_from_run, ← hg2]
        simp only [Option.bind_some, decide_eq_true_eq]
        by_cases hu : 0 ≤ u ∧ u ≤ 1099511627776
        · rw [if_pos hu, if_pos (by omega), w64 (n := 1 - 1) (by omega) (by omega), if_pos (by omega), if_pos (by simp; omega), show (1 : Int) - 1 = 0 by omega, e0]
          simp only [impl_ShowTimes.j1]
          by_cases hq : t ≥ u
          · rw [if_pos (by simpa using hq), if_neg (fun g => by have := g.2.2; simp only [riseM, risM, Bool.and_eq_true, decide_eq_true_eq] at this; omega)]; rfl
          · have g := impl_ShowTimes_run2 r [] t u f2 (varM t ++ varM (u - t)) (by simp; omega) (by simp; omega) ht.1 ht.2 hu.1 hu.2 (by omega)
            simp only [List.nil_append, List.length_nil] at g
            rw [if_neg (by simpa using hq), if_neg (by omega), if_pos trivial, if_pos (by simp; omega), e0, w64 (n := u - t) (by omega) (by omega), impl_Var_f _ _ (by omega)]
            simp only [Option.bind_some]
            rw [if_pos (by rw [size_strOfNums, size_strOfNums]; omega), w64 (n := 1 + 1) (by omega) (by omega), strOfNums_append]
            have hT2 : risM t (u :: r) = risM u r := by simp only [risM, decide_eq_true (show t < u ∧ 0 ≤ u ∧ u ≤ 1099511627776 by omega), Bool.true_and]
            simp only [hT2]
            refine Eq.trans g ?_
            simp only [timM, tim1, List.append_assoc]
            split <;> rfl
        · rw [if_neg hu]
          simp only [impl_ShowTimes.j1]
          rw [if_pos trivial, if_neg (fun g => by have := g.2.2; simp only [riseM, risM, Bool.and_eq_true, decide_eq_true_eq] at this; omega)]; rfl
    · rw [if_neg ht]
      simp only [impl_ShowTimes.j1]
      rw [if_pos trivial, if_neg (fun g => by have := g.2.2; simp only [riseM, risM, Bool.and_eq_true, decide_eq_true_eq] at this; omega)]; rfl

/-! slices of numbers: marked, held -/
def cntI : Int → Nat → List Int
  | _, 0 => []
  | m, n + 1 => m :: cntI (m + 1) n
theorem cntI_length : ∀ (n : Nat) (m : Int), (cntI m n).length = n
  | 0, _ => rfl
  | n + 1, m => by simp [cntI, cntI_length n]
theorem laws_markIntS_run : ∀ (b a : List Int) (k : Nat) (m : Int), 0 < m → m + b.length ≤ 1099511627776 → a.length + b.length ≤ 1099511627776 → b.length < k →
    laws_markIntS.l0 k (a ++ b) m (a.length : Int) = some (m + b.length, a ++ cntI m b.length) := by
  intro b
  induction b with
  | nil =>
    intro a k m h0 h1 h2 hk
    obtain ⟨q, rfl⟩ : ∃ m, k = m + 1 := ⟨k - 1, by omega⟩
    simp only [laws_markIntS.l0]; rw [if_neg (by simp)]; simp [cntI]
  | cons x b ih =>
    intro a k m h0 h1 h2 hk
    simp only [List.length_cons] at h1 h2 hk
    obtain ⟨q, rfl⟩ : ∃ m, k = m + 1 := ⟨k - 1, by omega⟩
    simp only [laws_markIntS.l0]
    rw [if_pos (by simp; omega), if_pos (by omega), set_at, w64 (n := m + 1) (by omega) (by omega), w64 (n := (a.length : Int) + 1) (by omega) (by omega)]
    have f := ih (a ++ [m]) q (m + 1) (by omega) (by omega) (by simp; omega) (by omega)
    rw [List.append_assoc, List.singleton_append, show (((a ++ [m]).length : Nat) : Int) = (a.length : Int) + 1 by simp] at f
    rw [f]
    simp [cntI]; omega
theorem laws_markIntS_f (l : List Int) (m : Int) (h0 : 0 < m) (h1 : m + l.length ≤ 1099511627776) (k : Nat) (hk : l.length < k) : laws_markIntS.f k l m = some (m + l.length, cntI m l.length) := by
  unfold laws_markIntS.f
  have := laws_markIntS_run l [] k m h0 h1 (by simp; omega) hk
  simpa using this
theorem laws_heldIntS_run : ∀ (n : Nat) (a : List Int) (k : Nat) (m : Int), 0 < m → m + n ≤ 1099511627776 → a.length + n ≤ 1099511627776 → n < k →
    laws_heldIntS.l0 k (a ++ cntI m n) m (a.length : Int) = some (m + n) := by
  intro n
  induction n with
  | zero =>
    intro a k m h0 h1 h2 hk
    obtain ⟨q, rfl⟩ : ∃ m, k = m + 1 := ⟨k - 1, by omega⟩
    simp only [laws_heldIntS.l0]; rw [if_neg (by simp [cntI])]; simp
  | succ n ih =>
    intro a k m h0 h1 h2 hk
    obtain ⟨q, rfl⟩ : ∃ m, k = m + 1 := ⟨k - 1, by omega⟩
    rw [show cntI m (n + 1) = m :: cntI (m + 1) n from rfl]
    simp only [laws_heldIntS.l0]
    rw [if_pos (by simp only [List.length_append, List.length_cons]; omega), if_pos (by omega), rd_at _ _ _ _ rfl, if_pos rfl, w64 (n := m + 1) (by omega) (by omega), w64 (n := (a.length : Int) + 1) (by omega) (by omega)]
    have f := ih (a ++ [m]) q (m + 1) (by omega) (by omega) (by simp; omega) (by omega)
    rw [List.append_assoc, List.singleton_append, show (((a ++ [m]).length : Nat) : Int) = (a.length : Int) + 1 by simp] at f
    rw [f]; congr 1; omega
theorem laws_heldIntS_f (n : Nat) (m : Int) (h0 : 0 < m) (h1 : m + n ≤ 1099511627776) (k : Nat) (hk : n < k) : laws_heldIntS.f k (cntI m n) m = some (m + n) := by
  unfold laws_heldIntS.f
  have := laws_heldIntS_run n [] k m h0 h1 (by simp; omega) hk
  simpa using this

/-! What reading a number comes to, at a place of a text -/
theorem rv_bound : ∀ (l : List Int) (i : Nat) (n : Int), Byt l → 0 ≤ n → n < 128 ^ i → i ≤ 7 → 0 ≤ (rv l i n).1 ∧ (rv l i n).1 < 562949953421312 ∧ 0 ≤ (rv l i n).2 ∧ (rv l i n).2 ≤ (i : Int) + l.length ∧ (rv l i n).2 ≤ 7
  | [], i, n, _, _, _, _ => by simp [rv]
  | b :: t, i, n, hb, h0, h1, hi => by
    obtain ⟨⟨b0, b1⟩, ht⟩ := byt_cons.1 hb
    unfold rv
    by_cases h7 : i < 7
    · rw [if_pos h7]
      have hp : (0 : Int) < 128 ^ i := Int.pow_pos (by omega)
      have hm0 : 0 ≤ b % 128 * 128 ^ i := Int.mul_nonneg (by omega) (by omega)
      have hm1 : b % 128 * 128 ^ i ≤ 127 * 128 ^ i := Int.mul_le_mul_of_nonneg_right (by omega) (by omega)
      have hs : (128 : Int) ^ (i + 1) = 128 ^ i * 128 := Int.pow_succ 128 i
      have hp7 : (128 : Int) ^ (i + 1) ≤ 562949953421312 := by
        have : i = 0 ∨ i = 1 ∨ i = 2 ∨ i = 3 ∨ i = 4 ∨ i = 5 ∨ i = 6 := by omega
        rcases this with rfl | rfl | rfl | rfl | rfl | rfl | rfl <;> decide
      generalize b % 128 * 128 ^ i = X at *
      split
      · have := rv_bound t (i + 1) (n + X) ht (by omega) (by omega) (by omega)
        rw [List.length_cons]
        omega
      · split
        · simp; omega
        · simp only [List.length_cons]; omega
    · rw [if_neg h7]; simp; omega

def rvx (s : ByteArray) (o : Int) : Int × Int := rv (bytesOf (s.extract o.toNat s.size)) 0 0
theorem rvx_bound (s : ByteArray) (o : Int) (h0 : 0 ≤ o) (h1 : o ≤ (s.size : Int)) : 0 ≤ (rvx s o).1 ∧ (rvx s o).1 < 562949953421312 ∧ 0 ≤ (rvx s o).2 ∧ o + (rvx s o).2 ≤ (s.size : Int) ∧ (rvx s o).2 ≤ 7 := by
  have := rv_bound (bytesOf (s.extract o.toNat s.size)) 0 0 (byt_bytesOf _) (by omega) (by simp) (by omega)
  have e : (bytesOf (s.extract o.toNat s.size)).length = s.size - o.toNat := by rw [bytesOf_length, ByteArray.size_extract]; omega
  rw [e] at this
  unfold rvx
  omega
theorem extract_all (s : ByteArray) : s.extract 0 s.size = s := bytesOf_inj (by rw [bytesOf_extract, List.drop_zero, List.take_of_length_le (by rw [bytesOf_length]; omega)])
theorem extract_rest (s : ByteArray) (a b : Nat) (ha : a ≤ s.size) : (s.extract a s.size).extract b (s.extract a s.size).size = s.extract (a + b) s.size := bytesOf_inj (by
  have e : (s.extract a s.size).size = s.size - a := by rw [ByteArray.size_extract]; omega
  rw [bytesOf_extract, bytesOf_extract, bytesOf_extract, e]
  have e2 : (bytesOf s).take s.size = bytesOf s := List.take_of_length_le (by rw [bytesOf_length]; omega)
  rw [e2, List.take_of_length_le (by rw [List.length_drop, bytesOf_length]; omega), List.drop_drop])

/-! numbers read one behind the other -/
theorem rv_canon : ∀ (l : List Int) (i : Nat) (n : Int), Byt l → (rv l i n).2 ≠ 0 → ∃ (a : List Int) (c : Int), l.take ((rv l i n).2 - i).toNat = a ++ [c] ∧ (∀ x ∈ a, x ≥ 128) ∧ c < 128 ∧ ((a = [] ∧ i = 0) ∨ c ≠ 0) ∧ (rv l i n).1 = n + (le7 (a ++ [c]) : Int) * 128 ^ i ∧ (i : Int) < (rv l i n).2
  | [], i, n, _, h => by exact absurd rfl h
  | b :: t, i, n, hb, h => by
    obtain ⟨⟨b0, b1⟩, ht⟩ := byt_cons.1 hb
    by_cases h7 : i < 7
    · by_cases h8 : b ≥ 128
      · have e : rv (b :: t) i n = rv t (i + 1) (n + b % 128 * 128 ^ i) := by rw [rv, if_pos h7, if_pos h8]
        rw [e] at h ⊢
        obtain ⟨a, c, h1, h2, h3, h4, h5, h6⟩ := rv_canon t (i + 1) _ ht h
        refine ⟨b :: a, c, ?_, ?_, h3, .inr ?_, ?_, by omega⟩
        · rw [show ((rv t (i + 1) (n + b % 128 * 128 ^ i)).2 - (i : Int)).toNat = ((rv t (i + 1) (n + b % 128 * 128 ^ i)).2 - ((i + 1 : Nat) : Int)).toNat + 1 by omega, List.take_succ_cons, h1]; rfl
        · intro x hx
          rcases List.mem_cons.1 hx with rfl | hx
          · exact h8
          · exact h2 x hx
        · rcases h4 with ⟨_, h4⟩ | h4
          · omega
          · exact h4
        · rw [h5, List.cons_append, le7]
          have hs : (128 : Int) ^ (i + 1) = 128 ^ i * 128 := Int.pow_succ 128 i
          rw [hs, Int.natCast_add, Int.natCast_mul, Int.add_mul, Int.toNat_of_nonneg (by omega), Int.add_assoc]
          congr 2
          rw [Int.mul_comm (128 ^ i) 128, ← Int.mul_assoc, Int.mul_comm ((le7 (a ++ [c]) : Int)) 128]; rfl
      · by_cases hz : b = 0 ∧ i > 0
        · have e : rv (b :: t) i n = (0, 0) := by rw [rv, if_pos h7, if_neg h8, if_pos hz]
          rw [e] at h; exact absurd rfl h
        · have e : rv (b :: t) i n = (n + b % 128 * 128 ^ i, (i : Int) + 1) := by rw [rv, if_pos h7, if_neg h8, if_neg hz]
          rw [e]
          refine ⟨[], b, ?_, by simp, by omega, ?_, ?_, by show (i : Int) < (i : Int) + 1; omega⟩
          · rw [show (((n + b % 128 * 128 ^ i, (i : Int) + 1) : Int × Int).2 - (i : Int)).toNat = 1 by show ((i : Int) + 1 - (i : Int)).toNat = 1; omega]; simp
          · by_cases hi : i = 0
            · exact .inl ⟨rfl, hi⟩
            · exact .inr (fun hb => hz ⟨hb, by omega⟩)
          · simp only [List.nil_append, le7, Nat.mul_zero, Nat.add_zero]
            rw [Int.toNat_of_nonneg (by omega)]
    · have e : rv (b :: t) i n = (0, 0) := by rw [rv, if_neg h7]
      rw [e] at h; exact absurd rfl h
theorem rvx_canon (s : ByteArray) (o : Int) (h0 : 0 ≤ o) (h1 : o ≤ (s.size : Int)) (h : (rvx s o).2 ≠ 0) : ((bytesOf s).drop o.toNat).take (rvx s o).2.toNat = varM (rvx s o).1 := by
  have B := rvx_bound s o h0 h1
  have e : bytesOf (s.extract o.toNat s.size) = (bytesOf s).drop o.toNat := by
    rw [bytesOf_extract, List.take_of_length_le (by rw [bytesOf_length]; omega)]
  unfold rvx at B h ⊢
  rw [e] at B h ⊢
  obtain ⟨a, c, g1, g2, g3, g4, g5, g6⟩ := rv_canon ((bytesOf s).drop o.toNat) 0 0 (byt_drop (byt_bytesOf s) _) h
  have g7 : ((rv ((bytesOf s).drop o.toNat) 0 0).2 - ((0 : Nat) : Int)).toNat = (rv ((bytesOf s).drop o.toNat) 0 0).2.toNat := by omega
  rw [g7] at g1
  have g8 : (rv ((bytesOf s).drop o.toNat) 0 0).1 = (le7 (a ++ [c]) : Int) := by rw [g5]; simp
  rw [g1, g8]
  unfold varM
  rw [if_pos (by omega), Int.toNat_natCast]
  refine (varN_back a c ?_ g2 g3 ?_).symm
  · rw [← g1]; exact byt_take (byt_drop (byt_bytesOf s) _) _
  · rcases g4 with ⟨g4, _⟩ | g4
    · exact .inl g4
    · exact .inr g4
def zs : Nat → ByteArray → Int → Option (List Int × Int)
  | 0, _, o => some ([], o)
  | n + 1, s, o => if (rvx s o).2 = 0 then none else (zs n s (o + (rvx s o).2)).map fun r => ((rvx s o).1 :: r.1, r.2)
def catV : List Int → List Int
  | [] => []
  | v :: r => varM v ++ catV r
theorem zs_spec : ∀ (n : Nat) (s : ByteArray) (o : Int) (l : List Int) (k : Int), 0 ≤ o → o ≤ (s.size : Int) → zs n s o = some (l, k) →
    o ≤ k ∧ k ≤ (s.size : Int) ∧ l.length = n ∧ (∀ v ∈ l, 0 ≤ v ∧ v < 562949953421312) ∧ ((bytesOf s).drop o.toNat).take (k - o).toNat = catV l := by
  intro n
  induction n with
  | zero =>
    intro s o l k h0 h1 h
    simp only [zs, Option.some.injEq, Prod.mk.injEq] at h
    obtain ⟨rfl, rfl⟩ := h
    simp [catV]; omega
  | succ n ih =>
    intro s o l k h0 h1 h
    have B := rvx_bound s o h0 h1
    rw [zs] at h
    by_cases hz : (rvx s o).2 = 0
    · rw [if_pos hz] at h; cases h
    · rw [if_neg hz] at h
      have C := rvx_canon s o h0 h1 hz
      cases hr : zs n s (o + (rvx s o).2) with
      | none => rw [hr] at h; cases h
      | some r =>
        rw [hr] at h
        simp only [Option.map_some, Option.some.injEq, Prod.mk.injEq] at h
        obtain ⟨rfl, rfl⟩ := h
        obtain ⟨c1, c2, c3, c4, c5⟩ := ih s _ r.1 r.2 (by omega) (by omega) hr
        refine ⟨by omega, c2, by simp [c3], ?_, ?_⟩
        · intro v hv
          rcases List.mem_cons.1 hv with rfl | hv
          · exact ⟨B.1, B.2.1⟩
          · exact c4 v hv
        · rw [show (r.2 - o).toNat = (rvx s o).2.toNat + (r.2 - (o + (rvx s o).2)).toNat by omega, List.take_add, C, List.drop_drop, show o.toNat + (rvx s o).2.toNat = (o + (rvx s o).2).toNat by omega, c5]; rfl

theorem spec_l7Vars_run : ∀ (d k : Nat) (s : ByteArray) (n : Int) (acc : List Int) (o i : Int), 0 ≤ o → o ≤ (s.size : Int) → s.size ≤ 140737488351232 → 0 ≤ i → i + d = n → n ≤ 60 → acc.length ≤ i → d + 310 ≤ k →
    ∃ g, spec_l7Vars.l0 k s n acc o i = some ((zs d s o).elim (g, -1) fun r => (acc ++ r.1, r.2)) := by
  intro d
  induction d with
  | zero =>
    intro k s n acc o i h0 h1 hs i0 i1 hn ha hk
    obtain ⟨q, rfl⟩ : ∃ m, k = m + 1 := ⟨k - 1, by omega⟩
    refine ⟨[], ?_⟩
    simp only [spec_l7Vars.l0]
    rw [if_neg (by omega)]
    simp [zs]
  | succ d ih =>
    intro k s n acc o i h0 h1 hs i0 i1 hn ha hk
    obtain ⟨q, rfl⟩ : ∃ m, k = m + 1 := ⟨k - 1, by omega⟩
    have B := rvx_bound s o h0 h1
    simp only [spec_l7Vars.l0]
    rw [if_pos (by omega), if_pos h0, if_pos h1, spec_ReadVar_f _ _ (by omega), show rv (bytesOf (s.extract o.toNat s.size)) 0 0 = rvx s o from rfl]
    simp only [Option.bind_some]
    by_cases hz : (rvx s o).2 = 0
    · refine ⟨acc, ?_⟩
      rw [if_pos hz, zs, if_pos hz]; rfl
    · obtain ⟨g, e⟩ := ih q s n (acc ++ [(rvx s o).1]) (o + (rvx s o).2) (i + 1) (by omega) (by omega) hs (by omega) (by omega) hn (by simp; omega) (by omega)
      refine ⟨g, ?_⟩
      rw [if_neg hz, if_pos (by omega), w64 (n := o + (rvx s o).2) (by omega) (by omega), w64 (n := i + 1) (by omega) (by omega), e, zs, if_neg hz]
      cases zs d s (o + (rvx s o).2) with
      | none => rfl
      | some r => simp

/-! zigzag back: what is needed of it -/
def zokM (l : List Int) : Bool := l.all fun v => decide (v ≤ 281474976710656)
theorem unzM_bound (v : Int) : -140737488355328 ≤ (unzM v).1 ∧ (unzM v).1 ≤ 140737488355328 := by
  unfold unzM; split
  · split <;> simp <;> omega
  · simp
theorem unzM_ok {v : Int} (h0 : 0 ≤ v) : (unzM v).2 = decide (v ≤ 281474976710656) := by
  unfold unzM
  by_cases h : v ≤ 281474976710656
  · rw [if_pos ⟨h0, h⟩, decide_eq_true h]; split <;> rfl
  · rw [if_neg (fun g => h g.2), decide_eq_false h]
theorem unzM_no {v : Int} (h : ¬ v ≤ 281474976710656) : (unzM v).1 = 0 := by
  unfold unzM; rw [if_neg (fun g => h g.2)]
theorem zig_unz {v : Int} (h0 : 0 ≤ v) (h : v ≤ 281474976710656) : zigM (unzM v).1 = v := by
  unfold unzM
  rw [if_pos ⟨h0, h⟩]
  by_cases h3 : v % 2 = 1
  · rw [if_pos h3]; simp only []; unfold zigM; rw [if_pos (by omega), if_pos (by omega)]; omega
  · rw [if_neg h3]; simp only []; unfold zigM; rw [if_pos (by omega), if_neg (by omega)]; omega
theorem varM_zero : varM 0 = [0] := by
  unfold varM; rw [if_pos (by omega)]; exact varN_lt (by omega)
theorem varM_big {v : Int} (h0 : 128 ≤ v) (h1 : v < 562949953421312) : ∃ x t, varM v = x :: t ∧ x ≥ 128 := by
  unfold varM; rw [if_pos (by omega), varN_ge (by omega)]
  exact ⟨_, _, rfl, by omega⟩
theorem varM_ne {v : Int} (h0 : 0 ≤ v) (h1 : v < 562949953421312) : varM v ≠ [] := by
  unfold varM; rw [if_pos (by omega)]; exact varN_ne _
theorem text_eq {l : List Int} (hl : Byt l) (t : ByteArray) : (strOfNums l).toList = t.toList ↔ l = bytesOf t := by
  rw [toList_eq_iff]
  constructor
  · rintro rfl; rw [bytesOf_strOfNums hl]
  · rintro rfl; rw [strOfNums_bytesOf]
theorem spec_l7Un_run (z : Int) (k : Nat) (hk : 0 < k) : spec_l7Un.f k z = some (unzM z).1 := by
  unfold spec_l7Un.f; rw [spec_UnZig_run z k hk]; rfl

theorem catV_ne {l : List Int} (h : 1 ≤ (l.length : Int)) (hv : ∀ v ∈ l, 0 ≤ v ∧ v < 562949953421312) : catV l ≠ [] := by
  cases l with
  | nil => simp at h
  | cons v r =>
    have := hv v (List.mem_cons_self)
    intro h2
    rw [catV] at h2
    exact varM_ne this.1 this.2 (List.append_eq_nil_iff.1 h2).1

/-! ReadTimes -/
def stepsI : Int → Int → List Int → List Int
  | _, _, [] => []
  | last, step, v :: r => (last + (step + (unzM v).1)) :: stepsI (last + (step + (unzM v).1)) (step + (unzM v).1) r
theorem stepsI_length : ∀ (l : List Int) (a b : Int), (stepsI a b l).length = l.length
  | [], _, _ => rfl
  | v :: r, a, b => by simp [stepsI, stepsI_length r]
def timesR : List Int → List Int
  | [] => []
  | [v] => [v]
  | v :: w :: r => v :: (v + w) :: stepsI (v + w) w r
theorem timesR_length : ∀ (l : List Int), (timesR l).length = l.length
  | [] => rfl
  | [v] => rfl
  | v :: w :: r => by simp [timesR, stepsI_length]
def zok2 : List Int → Bool
  | _ :: _ :: r => zokM r
  | _ => true
def inT (l : List Int) : Bool := l.all fun v => decide (0 ≤ v ∧ v ≤ 1099511627776)
theorem risM_inT : ∀ (l : List Int) (p : Int), risM p l = true → inT l = true
  | [], _, _ => rfl
  | t :: r, p, h => by
    simp only [risM, Bool.and_eq_true, decide_eq_true_eq] at h
    simp only [inT, List.all_cons, Bool.and_eq_true, decide_eq_true_eq]
    exact ⟨h.1.2, risM_inT r t h.2⟩
theorem tim2_steps : ∀ (l : List Int) (p q : Int), (∀ v ∈ l, 0 ≤ v ∧ v < 562949953421312) → (tim2 p q (stepsI q (q - p) l) = catV l ↔ zokM l = true)
  | [], p, q, _ => by simp [stepsI, tim2, catV, zokM]
  | v :: r, p, q, h => by
    have hv := h v (List.mem_cons_self)
    have ih := tim2_steps r q (q + (q - p + (unzM v).1)) (fun x hx => h x (List.mem_cons_of_mem _ hx))
    rw [show q + (q - p + (unzM v).1) - q = q - p + (unzM v).1 by omega] at ih
    rw [stepsI, tim2, catV, show q + (q - p + (unzM v).1) - q - (q - p) = (unzM v).1 by omega]
    have e : zokM (v :: r) = (decide (v ≤ 281474976710656) && zokM r) := rfl
    rw [e]
    by_cases hok : v ≤ 281474976710656
    · rw [zig_unz hv.1 hok, List.append_cancel_left_eq, decide_eq_true hok, Bool.true_and]; exact ih
    · rw [decide_eq_false hok, Bool.false_and, unzM_no hok, show zigM 0 = 0 by decide, varM_zero]
      obtain ⟨x, t, g1, g2⟩ := varM_big (v := v) (by omega) hv.2
      rw [g1]
      constructor
      · intro h; simp at h; omega
      · intro h; cases h
theorem timM_times : ∀ (l : List Int), (∀ v ∈ l, 0 ≤ v ∧ v < 562949953421312) → (timM (timesR l) = catV l ↔ zok2 l = true)
  | [], _ => by simp [timesR, timM, catV, zok2]
  | [v], _ => by simp [timesR, timM, tim1, catV, zok2]
  | v :: w :: r, h => by
    have e := tim2_steps r v (v + w) (fun x hx => h x (List.mem_cons_of_mem _ (List.mem_cons_of_mem _ hx)))
    rw [show v + w - v = w by omega] at e
    simp only [timesR, timM, tim1, catV]
    rw [show v + w - v = w by omega, List.append_cancel_left_eq, List.append_cancel_left_eq]
    exact e
theorem showTimM_byt (l : List Int) : Byt (showTimM l) := by
  unfold showTimM; split
  · exact timM_byt _
  · exact byt_nil
theorem showTim_times (l : List Int) (hl : 1 ≤ (l.length : Int) ∧ (l.length : Int) ≤ 60) (hr : riseM (timesR l) = true) : showTimM (timesR l) = timM (timesR l) := by
  unfold showTimM; rw [timesR_length, if_pos ⟨hl.1, hl.2, hr⟩]
theorem showTim_no (l : List Int) (hr : ¬ riseM l = true) : showTimM l = [] := by
  unfold showTimM; rw [if_neg (fun h => hr h.2.2)]
def readTimM (s : ByteArray) (n : Int) : List Int × Int :=
  if 1 ≤ n ∧ n ≤ 60 then (zs n.toNat s 0).elim ([], 0) fun r => if zok2 r.1 = true ∧ riseM (timesR r.1) = true then (timesR r.1, r.2) else ([], 0) else ([], 0)
def finS (s : ByteArray) (kk : Int) (g out : List Int) : List Int × Int := if showTimM out = (bytesOf s).take kk.toNat then (out, kk) else (g, 0)
theorem spec_RT_end (k : Nat) (s : ByteArray) (n : Int) (g vs : List Int) (kk : Int) (out : List Int) (k0 : 0 ≤ kk) (k1 : kk ≤ (s.size : Int)) (hk : 100 < k) :
    spec_ReadTimes.l0 (k + 1) s n g vs kk out n = some (finS s kk g out) := by
  simp only [spec_ReadTimes.l0]
  rw [if_neg (by omega), spec_ShowTimes_f out k hk]
  simp only [Option.bind_some]
  rw [if_pos k0, if_pos k1]
  simp only [text_eq (showTimM_byt _), bytesOf_extract, List.drop_zero]
  unfold finS
  split <;> rfl
theorem spec_RT_run2 : ∀ (vb va : List Int) (k : Nat) (s : ByteArray) (n : Int) (g : List Int) (kk : Int) (oa : List Int) (p q : Int), ((va ++ vb).length : Int) = n → n ≤ 60 → oa.length + 2 = va.length → 0 ≤ p → p < 562949953421312 → 0 ≤ q → q ≤ 1099511627776 → 0 ≤ kk → kk ≤ (s.size : Int) → vb.length + 110 < k →
    spec_ReadTimes.l0 k s n g (va ++ vb) kk (oa ++ p :: q :: []) (va.length : Int) = some (if inT (stepsI q (q - p) vb) = true then finS s kk g (oa ++ p :: q :: stepsI q (q - p) vb) else (g, 0)) := by
  intro vb
  induction vb with
  | nil =>
    intro va k s n g kk oa p q hn h60 ho p0 p1 q0 q1 k0 k1 hk
    obtain ⟨q2, rfl⟩ : ∃ m, k = m + 1 := ⟨k - 1, by omega⟩
    simp only [List.append_nil] at hn
    rw [hn, spec_RT_end q2 s n g _ kk _ k0 k1 (by omega), stepsI, if_pos (show inT [] = true from rfl)]
  | cons v vb ih =>
    intro va k s n g kk oa p q hn h60 ho p0 p1 q0 q1 k0 k1 hk
    simp only [List.length_cons] at hk
    obtain ⟨q2, rfl⟩ : ∃ m, k = m + 1 := ⟨k - 1, by omega⟩
    have B := unzM_bound v
    have hn2 : (va.length : Int) + 1 + vb.length = n := by rw [← hn]; simp; omega
    have hlen : ((oa ++ p :: q :: []).length : Int) = va.length := by simp; omega
    simp only [spec_ReadTimes.l0]
    rw [if_pos (by omega), if_pos (by omega), if_pos (by simp; omega), if_pos (by omega), w64 (n := (va.length : Int) - 1) (by omega) (by omega), w64 (n := (va.length : Int) - 2) (by omega) (by omega), if_pos (by omega), if_pos (by omega), if_pos (by omega), if_pos (by omega), rd_at _ _ _ _ rfl, spec_l7Un_run v q2 (by omega)]
    simp only [Option.bind_some]
    rw [rd_at2 oa [] p q _ (by omega), rd_at oa [q] p _ (by omega), w64 (n := q - p) (by omega) (by omega), w64 (n := q - p + (unzM v).1) (by omega) (by omega), w64 (n := q + (q - p + (unzM v).1)) (by omega) (by omega), spec_l1In_run]
    simp only [Option.bind_some, decide_eq_true_eq]
    by_cases hx : 0 ≤ q + (q - p + (unzM v).1) ∧ q + (q - p + (unzM v).1) ≤ 1099511627776
    · have f := ih (va ++ [v]) q2 s n g kk (oa ++ [p]) q (q + (q - p + (unzM v).1)) (by rw [← hn]; simp) h60 (by simp; omega) q0 (by omega) hx.1 hx.2 k0 k1 (by omega)
      rw [List.append_assoc, List.singleton_append, show (((va ++ [v]).length : Nat) : Int) = (va.length : Int) + 1 by simp, show q + (q - p + (unzM v).1) - q = q - p + (unzM v).1 by omega] at f
      rw [if_pos hx, if_pos (by omega), w64 (n := (va.length : Int) + 1) (by omega) (by omega), show oa ++ p :: q :: [] ++ [q + (q - p + (unzM v).1)] = oa ++ [p] ++ q :: (q + (q - p + (unzM v).1)) :: [] by simp, f]
      have e : inT (stepsI q (q - p) (v :: vb)) = inT (stepsI (q + (q - p + (unzM v).1)) (q - p + (unzM v).1) vb) := by
        simp only [stepsI, inT, List.all_cons]; rw [decide_eq_true hx, Bool.true_and]
      by_cases hi : inT (stepsI (q + (q - p + (unzM v).1)) (q - p + (unzM v).1) vb) = true
      · rw [if_pos hi, if_pos (e.trans hi), List.append_assoc]; rfl
      · rw [if_neg hi, if_neg (fun h => hi (e.symm.trans h))]
    · rw [if_neg hx, if_neg]
      simp only [stepsI, inT, List.all_cons]; rw [decide_eq_false hx, Bool.false_and]; decide
theorem spec_RT_run1 (vs : List Int) (hv : ∀ v ∈ vs, 0 ≤ v ∧ v < 562949953421312) (k : Nat) (s : ByteArray) (g : List Int) (kk : Int) (h1 : 1 ≤ vs.length) (h60 : vs.length ≤ 60) (k0 : 0 ≤ kk) (k1 : kk ≤ (s.size : Int)) (hk : 300 < k) (hne : (bytesOf s).take kk.toNat ≠ []) :
    spec_ReadTimes.l0 k s (vs.length : Int) g vs kk [rd vs 0] 1 = some (finS s kk g (timesR vs)) := by
  match vs with
  | [] => simp at h1
  | [v] =>
    obtain ⟨q2, rfl⟩ : ∃ m, k = m + 1 := ⟨k - 1, by omega⟩
    exact spec_RT_end q2 s 1 g _ kk _ k0 k1 (by omega)
  | v :: w :: r =>
    obtain ⟨q2, rfl⟩ : ∃ m, k = m + 1 := ⟨k - 1, by omega⟩
    obtain ⟨v0, v1⟩ := hv v (by simp)
    obtain ⟨w0, w1⟩ := hv w (by simp)
    simp only [List.length_cons] at h60
    have e0 : rd (v :: w :: r) 0 = v := rfl
    have e1 : rd (v :: w :: r) 1 = w := rfl
    have e2 : rd [v] 0 = v := rfl
    have hl : ((v :: w :: r).length : Int) = (r.length : Int) + 2 := by simp; omega
    rw [e0, hl]
    simp only [spec_ReadTimes.l0]
    rw [if_pos (by omega), if_pos (by omega), hl, if_pos (by omega), if_neg (by omega), show wrap64 (1 - 1) = 0 by have := w64 (n := 1 - 1) (by omega) (by omega); omega, if_pos (by omega), if_pos (by simp), e1, e2, w64 (n := v + w) (by omega) (by omega), spec_l1In_run]
    simp only [Option.bind_some, decide_eq_true_eq]
    have key : ¬ riseM (timesR (v :: w :: r)) = true → finS s kk g (timesR (v :: w :: r)) = (g, 0) := by
      intro h; unfold finS; rw [showTim_no _ h, if_neg (fun h2 => hne h2.symm)]
    have ris : riseM (timesR (v :: w :: r)) = (decide (0 ≤ v ∧ v ≤ 1099511627776) && (decide (v < v + w ∧ 0 ≤ v + w ∧ v + w ≤ 1099511627776) && risM (v + w) (stepsI (v + w) w r))) := rfl
    by_cases hx : 0 ≤ v + w ∧ v + w ≤ 1099511627776
    · have f := spec_RT_run2 r [v, w] q2 s ((r.length : Int) + 2) g kk [] v (v + w) (by simp; omega) (by omega) rfl v0 v1 hx.1 hx.2 k0 k1 (by omega)
      rw [show v + w - v = w by omega] at f
      rw [if_pos hx, if_pos (by simp), show wrap64 (1 + 1) = (([v, w] : List Int).length : Int) by have := w64 (n := 1 + 1) (by omega) (by omega); simp only [List.length_cons, List.length_nil]; omega]
      refine Eq.trans f ?_
      by_cases hi : inT (stepsI (v + w) w r) = true
      · rw [if_pos hi]; rfl
      · rw [if_neg hi, key]
        rw [ris]
        intro h
        simp only [Bool.and_eq_true] at h
        exact hi (risM_inT _ _ h.2.2)
    · rw [if_neg hx, key]
      rw [ris]
      intro h
      simp only [Bool.and_eq_true, decide_eq_true_eq] at h
      exact hx ⟨h.2.1.2.1, h.2.1.2.2⟩
theorem spec_ReadTimes_f (s : ByteArray) (n : Int) (hs : s.size ≤ 140737488351232) (k : Nat) (hk : 1048700 ≤ k) : spec_ReadTimes.f k s n = some (readTimM s n) := by
  unfold spec_ReadTimes.f readTimM
  simp only [Option.bind_some]
  rw [spec_l1In_run]
  simp only [Option.bind_some, decide_eq_true_eq]
  by_cases hn : 1 ≤ n ∧ n ≤ 60
  · rw [if_pos hn, if_pos hn]
    unfold spec_l7Vars.f
    obtain ⟨g, e⟩ := spec_l7Vars_run n.toNat k s n [] 0 0 (by omega) (by omega) hs (by omega) (by omega) hn.2 (by simp) (by omega)
    cases hz : zs n.toNat s 0 with
    | none =>
      rw [hz] at e
      simp only [Option.elim_none] at e
      rw [e]; rfl
    | some r =>
      rw [hz] at e
      simp only [Option.elim_some, List.nil_append] at e
      rw [e]
      simp only [Option.bind_some, Option.elim_some]
      obtain ⟨c1, c2, c3, c4, c5⟩ := zs_spec n.toNat s 0 r.1 r.2 (by omega) (by omega) hz
      have c6 : (bytesOf s).take r.2.toNat = catV r.1 := by simpa using c5
      have f := spec_RT_run1 r.1 c4 k s [] r.2 (by omega) (by omega) c1 c2 (by omega) (by rw [c6]; exact catV_ne (by omega) c4)
      rw [show ((r.1.length : Nat) : Int) = n by omega] at f
      rw [if_neg (show ¬ r.2 < 0 by omega), if_pos (show 0 < (r.1.length : Int) by omega), f]
      unfold finS
      rw [c6]
      by_cases hr : riseM (timesR r.1) = true
      · rw [showTim_times r.1 (by omega) hr]
        by_cases ho : zok2 r.1 = true
        · rw [if_pos ((timM_times r.1 c4).2 ho), if_pos ⟨ho, hr⟩]
        · rw [if_neg (fun h => ho ((timM_times r.1 c4).1 h)), if_neg (fun h => ho h.1)]
      · rw [showTim_no _ hr, if_neg (fun h => catV_ne (by omega) c4 h.symm), if_neg (fun h => hr h.2)]
  · rw [if_neg hn, if_neg hn]

/-! the reader -/
theorem impl_num_no (s : ByteArray) (k : Nat) (hk : 301 ≤ k) (hs : s.size ≤ 140737488351232) : impl_reader_num.f k s false = some (0, s, false) := by
  unfold impl_reader_num.f
  rw [impl_ReadVar_f _ _ (by omega)]
  simp
theorem impl_num_yes (s : ByteArray) (o : Int) (k : Nat) (hk : 301 ≤ k) (hs : s.size ≤ 140737488351232) (h0 : 0 ≤ o) (h1 : o ≤ (s.size : Int)) : impl_reader_num.f k (s.extract o.toNat s.size) true =
    some (if (rvx s o).2 = 0 then (0, s.extract o.toNat s.size, false) else ((rvx s o).1, s.extract (o + (rvx s o).2).toNat s.size, true)) := by
  have e : (s.extract o.toNat s.size).size = s.size - o.toNat := by rw [ByteArray.size_extract]; omega
  unfold impl_reader_num.f
  rw [impl_ReadVar_f _ _ (by omega)]
  simp only [Option.bind_some]
  rw [if_pos trivial]
  have B := rvx_bound s o h0 h1
  rw [show rv (bytesOf (s.extract o.toNat s.size)) 0 0 = rvx s o from rfl]
  generalize rvx s o = p at *
  by_cases h : p.2 = 0
  · rw [if_neg (by omega), if_pos h]; simp; omega
  · rw [if_pos (by omega), if_pos (by omega), if_pos (by rw [e]; omega), if_neg h, extract_rest _ _ _ (by omega), show (o + p.2).toNat = o.toNat + p.2.toNat by omega]
    simp; omega
theorem impl_zag_no (s : ByteArray) (k : Nat) (hk : 301 ≤ k) (hs : s.size ≤ 140737488351232) : impl_reader_zag.f k s false = some (0, s, false) := by
  unfold impl_reader_zag.f
  rw [impl_num_no s k hk hs]
  simp only [Option.bind_some]
  rw [impl_UnZig_run]
  rfl
theorem impl_zag_yes (s : ByteArray) (o : Int) (k : Nat) (hk : 301 ≤ k) (hs : s.size ≤ 140737488351232) (h0 : 0 ≤ o) (h1 : o ≤ (s.size : Int)) : impl_reader_zag.f k (s.extract o.toNat s.size) true =
    some (if (rvx s o).2 = 0 then (0, s.extract o.toNat s.size, false) else ((unzM (rvx s o).1).1, s.extract (o + (rvx s o).2).toNat s.size, decide ((rvx s o).1 ≤ 281474976710656))) := by
  unfold impl_reader_zag.f
  rw [impl_num_yes s o k hk hs h0 h1]
  simp only [Option.bind_some]
  have B := rvx_bound s o h0 h1
  by_cases h : (rvx s o).2 = 0
  · rw [if_pos h, if_pos h, impl_UnZig_run]; rfl
  · rw [if_neg h, if_neg h, impl_UnZig_run]
    simp only [Option.bind_some]
    rw [if_pos trivial, unzM_ok B.1]
theorem impl_began_run (s t : ByteArray) : impl_began.f s t = some ((t.size : Int), if bytesOf t = [] then false else decide ((bytesOf s).take t.size = bytesOf t)) := by
  unfold impl_began.f
  have e : t.toList = ([] : List UInt8) ↔ bytesOf t = [] := by
    rw [ByteArray.toList_eq]; unfold bytesOf; simp
  by_cases h : bytesOf t = []
  · rw [if_pos (e.2 h), if_pos h]
  · rw [if_neg (fun g => h (e.1 g)), if_neg h]
    unfold strings_HasPrefix.f stringslite_HasPrefix.f
    by_cases hl : (s.size : Int) ≥ (t.size : Int)
    · rw [if_pos hl, if_pos (by omega), if_pos (by omega)]
      simp only [Option.bind_some]
      congr 2
      rw [show ((t.size : Int)).toNat = t.size by omega, Bool.eq_iff_iff, beq_iff_eq, decide_eq_true_eq, toList_eq_iff]
      have e2 : bytesOf (s.extract 0 t.size) = (bytesOf s).take t.size := by rw [bytesOf_extract, List.drop_zero]
      rw [← e2]
      exact ⟨fun h => by rw [h], bytesOf_inj⟩
    · rw [if_neg hl]
      simp only [Option.bind_some]
      congr 2
      rw [eq_comm, decide_eq_false_iff_not]
      intro h2
      have := congrArg List.length h2
      rw [List.length_take, bytesOf_length, bytesOf_length] at this
      omega

def finT (s : ByteArray) (l : List Int) : List Int × Int :=
  if showTimM l = [] then ([], 0) else if (bytesOf s).take (showTimM l).length = showTimM l then (l, ((showTimM l).length : Int)) else ([], 0)
theorem impl_RT_end (k : Nat) (s : ByteArray) (out : List Int) (a b n : Int) (st : ByteArray) (ho : out.length ≤ 1048576) (hk : 2097200 < k) : impl_ReadTimes.l0 (k + 1) s out a b n n st true = some (finT s out) := by
  simp only [impl_ReadTimes.l0]
  rw [if_neg (by omega), impl_ShowTimes_f out ho k hk]
  simp only [Option.bind_some]
  rw [impl_began_run, bytesOf_strOfNums (showTimM_byt _), size_strOfNums]
  simp only [Option.bind_some]
  rw [if_pos trivial]
  unfold finT
  by_cases h : showTimM out = []
  · rw [if_pos h, if_pos h, if_neg (by decide)]
  · rw [if_neg h, if_neg h]
    simp only [decide_eq_true_eq]
    split <;> rfl
theorem impl_RT_no : ∀ (d k : Nat) (s : ByteArray) (out : List Int) (a b n i : Int) (st : ByteArray), 0 ≤ i → i + d = n → n ≤ 60 → out.length ≤ i → st.size ≤ 140737488351232 → d + 2097210 < k →
    impl_ReadTimes.l0 k s out a b n i st false = some ([], 0) := by
  intro d
  induction d with
  | zero =>
    intro k s out a b n i st i0 i1 hn ho hs hk
    obtain ⟨q, rfl⟩ : ∃ m, k = m + 1 := ⟨k - 1, by omega⟩
    simp only [impl_ReadTimes.l0]
    rw [if_neg (by omega), impl_ShowTimes_f out (by omega) q (by omega)]
    simp only [Option.bind_some]
    rw [impl_began_run]
    simp
  | succ d ih =>
    intro k s out a b n i st i0 i1 hn ho hs hk
    obtain ⟨q, rfl⟩ : ∃ m, k = m + 1 := ⟨k - 1, by omega⟩
    simp only [impl_ReadTimes.l0]
    rw [if_pos (by omega)]
    by_cases h2 : i < 2
    · rw [if_pos h2, impl_num_no st q (by omega) hs]
      simp only [Option.bind_some]
      rw [if_pos (by omega), w64 (n := i + 1) (by omega) (by omega)]
      exact ih q s _ _ _ n (i + 1) st (by omega) (by omega) hn (by simp; omega) hs (by omega)
    · rw [if_neg h2, impl_zag_no st q (by omega) hs]
      simp only [Option.bind_some]
      rw [if_pos (by omega), w64 (n := i + 1) (by omega) (by omega)]
      exact ih q s _ _ _ n (i + 1) st (by omega) (by omega) hn (by simp; omega) hs (by omega)
theorem impl_RT_yes : ∀ (d k : Nat) (s : ByteArray) (out : List Int) (step last n o i : Int), 2 ≤ i → i + d = n → n ≤ 60 → out.length ≤ i → s.size ≤ 140737488351232 → 0 ≤ o → o ≤ (s.size : Int) → -(562949953421312 + i * 140737488355328) ≤ step → step ≤ 562949953421312 + i * 140737488355328 → -(i * 72057594037927936) ≤ last → last ≤ i * 72057594037927936 → d + 2097210 < k →
    impl_ReadTimes.l0 k s out step last n i (s.extract o.toNat s.size) true = some ((zs d s o).elim ([], 0) fun r => if zokM r.1 = true then finT s (out ++ stepsI last step r.1) else ([], 0)) := by
  intro d
  induction d with
  | zero =>
    intro k s out step last n o i i0 i1 hn ho hs o0 o1 t0 t1 l0 l1 hk
    obtain ⟨q, rfl⟩ : ∃ m, k = m + 1 := ⟨k - 1, by omega⟩
    have hi : i = n := by omega
    subst hi
    rw [impl_RT_end q s out step last i _ (by omega) (by omega)]
    simp only [zs, Option.elim_some, stepsI, List.append_nil]
    rw [if_pos (show zokM [] = true from rfl)]
  | succ d ih =>
    intro k s out step last n o i i0 i1 hn ho hs o0 o1 t0 t1 l0 l1 hk
    obtain ⟨q, rfl⟩ : ∃ m, k = m + 1 := ⟨k - 1, by omega⟩
    have B := rvx_bound s o o0 o1
    have U := unzM_bound (rvx s o).1
    have e4 : ∀ a, (s.extract a s.size).size ≤ 140737488351232 := fun a => by rw [ByteArray.size_extract]; omega
    simp only [impl_ReadTimes.l0]
    rw [if_pos (by omega), if_neg (by omega), impl_zag_yes s o q (by omega) hs o0 o1]
    simp only [Option.bind_some, zs]
    by_cases hz : (rvx s o).2 = 0
    · rw [if_pos hz, if_pos hz]
      simp only []
      rw [if_pos (by omega), w64 (n := i + 1) (by omega) (by omega)]
      exact impl_RT_no d q s _ _ _ n (i + 1) _ (by omega) (by omega) hn (by simp; omega) (e4 _) (by omega)
    · rw [if_neg hz, if_neg hz]
      simp only []
      rw [if_pos (by omega), w64 (n := i + 1) (by omega) (by omega), w64 (n := step + (unzM (rvx s o).1).1) (by omega) (by omega), w64 (n := last + (step + (unzM (rvx s o).1).1)) (by omega) (by omega)]
      by_cases hv : (rvx s o).1 ≤ 281474976710656
      · rw [decide_eq_true hv, ih q s _ _ _ n (o + (rvx s o).2) (i + 1) (by omega) (by omega) hn (by simp; omega) hs (by omega) (by omega) (by omega) (by omega) (by omega) (by omega) (by omega)]
        cases zs d s (o + (rvx s o).2) with
        | none => rfl
        | some r =>
          simp only [Option.elim_some, Option.map_some, stepsI, List.append_assoc, List.singleton_append]
          have e : zokM ((rvx s o).1 :: r.1) = (decide ((rvx s o).1 ≤ 281474976710656) && zokM r.1) := rfl
          rw [e, decide_eq_true hv, Bool.true_and]
      · rw [decide_eq_false hv, impl_RT_no d q s _ _ _ n (i + 1) _ (by omega) (by omega) hn (by simp; omega) (e4 _) (by omega)]
        cases zs d s (o + (rvx s o).2) with
        | none => rfl
        | some r =>
          simp only [Option.elim_some, Option.map_some]
          have e : zokM ((rvx s o).1 :: r.1) = (decide ((rvx s o).1 ≤ 281474976710656) && zokM r.1) := rfl
          rw [e, decide_eq_false hv, Bool.false_and, if_neg (by decide)]
theorem impl_RT_all (m k : Nat) (s : ByteArray) (n : Int) (hn : n = (m : Int) + 1) (h60 : n ≤ 60) (hs : s.size ≤ 140737488351232) (hk : m + 2097220 < k) :
    impl_ReadTimes.l0 k s [] 0 0 n 0 s true = some ((zs (m + 1) s 0).elim ([], 0) fun r => if zok2 r.1 = true then finT s (timesR r.1) else ([], 0)) := by
  obtain ⟨q, rfl⟩ : ∃ m, k = m + 2 := ⟨k - 2, by omega⟩
  have e4 : ∀ a, (s.extract a s.size).size ≤ 140737488351232 := fun a => by rw [ByteArray.size_extract]; omega
  have hx := impl_num_yes s 0 (q + 1) (by omega) hs (by omega) (by omega)
  rw [show s.extract (0 : Int).toNat s.size = s from extract_all s, show (0 : Int) + (rvx s 0).2 = (rvx s 0).2 by omega] at hx
  have B := rvx_bound s 0 (by omega) (by omega)
  rw [impl_ReadTimes.l0]
  rw [if_pos (by omega), if_pos (by omega), hx]
  simp only [Option.bind_some]
  rw [zs, show (0 : Int) + (rvx s 0).2 = (rvx s 0).2 by omega]
  by_cases hz : (rvx s 0).2 = 0
  · rw [if_pos hz, if_pos hz]
    simp only []
    rw [if_pos (by decide), show wrap64 (0 + 1) = 1 by have := w64 (n := 0 + 1) (by omega) (by omega); omega]
    exact impl_RT_no m (q + 1) s _ _ _ n 1 _ (by omega) (by omega) h60 (by simp) hs (by omega)
  · rw [if_neg hz, if_neg hz]
    simp only []
    rw [if_pos (by decide), show wrap64 (0 + 1) = 1 by have := w64 (n := 0 + 1) (by omega) (by omega); omega, w64 (n := 0 + (rvx s 0).1) (by omega) (by omega), show (0 : Int) + (rvx s 0).1 = (rvx s 0).1 by omega]
    cases m with
    | zero =>
      have h1 : n = 1 := by omega
      subst h1
      rw [impl_RT_end q s _ _ _ 1 _ (by simp) (by omega)]
      simp [zs, zok2, timesR]
    | succ m =>
      rw [impl_ReadTimes.l0]
      rw [if_pos (by omega), if_pos (by omega), impl_num_yes s (rvx s 0).2 q (by omega) hs (by omega) (by omega)]
      have B2 := rvx_bound s (rvx s 0).2 (by omega) (by omega)
      simp only [Option.bind_some]
      rw [zs]
      by_cases hz2 : (rvx s (rvx s 0).2).2 = 0
      · rw [if_pos hz2, if_pos hz2]
        simp only []
        rw [if_pos (by simp), show wrap64 (1 + 1) = 2 by have := w64 (n := 1 + 1) (by omega) (by omega); omega]
        exact impl_RT_no m q s _ _ _ n 2 _ (by omega) (by omega) h60 (by simp) (e4 _) (by omega)
      · rw [if_neg hz2, if_neg hz2]
        simp only []
        rw [if_pos (by simp), show wrap64 (1 + 1) = 2 by have := w64 (n := 1 + 1) (by omega) (by omega); omega, w64 (n := (rvx s 0).1 + (rvx s (rvx s 0).2).1) (by omega) (by omega), impl_RT_yes m q s _ _ _ n ((rvx s 0).2 + (rvx s (rvx s 0).2).2) 2 (by omega) (by omega) h60 (by simp) hs (by omega) (by omega) (by omega) (by omega) (by omega) (by omega) (by omega)]
        cases zs m s ((rvx s 0).2 + (rvx s (rvx s 0).2).2) with
        | none => rfl
        | some r => rfl
theorem impl_ReadTimes_f (s : ByteArray) (n : Int) (hs : s.size ≤ 140737488351232) (k : Nat) (hk : 2097400 ≤ k) : impl_ReadTimes.f k s n = some (readTimM s n) := by
  unfold impl_ReadTimes.f readTimM
  rw [impl_from_run]
  simp only [Option.bind_some, decide_eq_true_eq]
  by_cases hn : 1 ≤ n ∧ n ≤ 60
  · rw [if_pos hn, if_pos hn]
    obtain ⟨m, hm⟩ : ∃ m, n.toNat = m + 1 := ⟨n.toNat - 1, by omega⟩
    rw [impl_RT_all m k s n (by omega) hn.2 hs (by omega), hm]
    cases hz : zs (m + 1) s 0 with
    | none => rfl
    | some r =>
      obtain ⟨c1, c2, c3, c4, c5⟩ := zs_spec (m + 1) s 0 r.1 r.2 (by omega) (by omega) hz
      have c6 : (bytesOf s).take r.2.toNat = catV r.1 := by simpa using c5
      simp only [Option.elim_some]
      by_cases ho : zok2 r.1 = true
      · rw [if_pos ho]
        unfold finT
        by_cases hr : riseM (timesR r.1) = true
        · have g := (showTim_times r.1 (by omega) hr).trans ((timM_times r.1 c4).2 ho)
          have c7 : (catV r.1).length = r.2.toNat := by rw [← c6, List.length_take, bytesOf_length]; omega
          simp only [g]
          rw [if_neg (catV_ne (by omega) c4), c7, if_pos c6, if_pos (show zok2 r.1 = true ∧ riseM (timesR r.1) = true from ⟨ho, hr⟩), show ((r.2.toNat : Nat) : Int) = r.2 by omega]
        · rw [if_pos (showTim_no _ hr), if_neg (show ¬ (zok2 r.1 = true ∧ riseM (timesR r.1) = true) from fun h => hr h.2)]
      · rw [if_neg ho, if_neg (show ¬ (zok2 r.1 = true ∧ riseM (timesR r.1) = true) from fun h => ho h.1)]
  · rw [if_neg hn, if_neg hn]

theorem readTimM_length (s : ByteArray) (n : Int) (hs : s.size ≤ 140737488351232) : (readTimM s n).1.length ≤ 60 := by
  unfold readTimM
  by_cases hn : 1 ≤ n ∧ n ≤ 60
  · rw [if_pos hn]
    cases hz : zs n.toNat s 0 with
    | none => simp
    | some r =>
      obtain ⟨c1, c2, c3, c4, c5⟩ := zs_spec n.toNat s 0 r.1 r.2 (by omega) (by omega) hz
      simp only [Option.elim_some]
      split
      · rw [timesR_length]; omega
      · simp
  · rw [if_neg hn]; simp
theorem FnExactReadTimes : laws_FnExactReadTimes.Pure := by
  intro s n hs hw
  refine ⟨2097500, ?_⟩
  unfold laws_FnExactReadTimes.f
  split
  · rfl
  · have hl := readTimM_length s n hs
    rw [spec_ReadTimes_f s n hs 2097500 (by omega), impl_ReadTimes_f s n hs 2097500 (by omega)]
    simp only [Option.bind_some]
    rw [laws_eqIntS_f _ (by omega) _ (by omega)]
    simp only [Option.bind_some, if_true, laws_FnExactReadTimes.j0, bne_self_eq_false]
    rw [if_neg (by decide), laws_markIntS_f _ 1 (by omega) (by omega) _ (by omega)]
    simp only [Option.bind_some]
    rw [laws_heldIntS_f _ 1 (by omega) (by omega) _ (by omega)]
    simp only [Option.bind_some]
    rw [if_neg (by omega), if_pos trivial, impl_ReadTimes_f s n hs _ (by omega)]
    simp only [Option.bind_some]
    rw [laws_eqIntS_f _ (by omega) _ (by omega)]
    simp only [Option.bind_some, if_true, laws_FnExactReadTimes.j1, bne_self_eq_false]
    rw [if_neg (by decide), laws_heldIntS_f _ 1 (by omega) (by omega) _ (by omega)]
    simp only [Option.bind_some]
    rw [if_neg (by omega), if_pos trivial]

end Go.Proofs.Ytfmddjbekophnaa.Pure
