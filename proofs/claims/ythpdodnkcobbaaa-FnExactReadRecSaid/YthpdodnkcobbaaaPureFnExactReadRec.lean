/- The record's text read back. -/
import Derived.Test.YthpdodnkcobbaaaPFnExactReadRecx1
import Derived.Test.YthpdodnkcobbaaaPFnExactReadRecx2
import Derived.Test.YthpdodnkcobbaaaPFnExactReadRecx3
import Derived.Test.YthpdodnkcobbaaaPFnExactReadRecx4
import Derived.Test.YthpdodnkcobbaaaPFnExactReadRecx5
import Derived.Test.YthpdodnkcobbaaaPFnExactReadRecx6
import Derived.Test.YthpdodnkcobbaaaBase
import Derived.Test.YthpdodnkcobbaaaNum
import Derived.Test.YthpdodnkcobbaaaNumRec
namespace Go.Proofs.Ythpdodnkcobbaaa.Pure
open Go.RowKit Go.Proofs.Ythpdodnkcobbaaa.PFnExactReadRec Go.Proofs.YthpdodnkcobbaaaW.PrintWords Go.Proofs.YthpdodnkcobbaaaW.PrintLast Go.Proofs.YthpdodnkcobbaaaW.PrintMore Go.Proofs.Ythpdodnkcobbaaa.Base
set_option linter.unusedVariables false
set_option linter.unusedSimpArgs false

/-! ranges -/
theorem spec_l1In_run (a b c : Int) : spec_l1In.f a b c = some (decide (b ≤ a ∧ a ≤ c)) := by
  unfold spec_l1In.f
  by_cases h : a ≥ b
  · rw [if_pos h]; congr 1; simp [show b ≤ a from h]
  · rw [if_neg h]; congr 1; simp; omega

theorem impl_from_run (a b c : Int) : impl_from.f a b c = some (decide (b ≤ a ∧ a ≤ c)) := by
  unfold impl_from.f
  by_cases h : a ≥ b
  · rw [if_pos h]; congr 1; simp [show b ≤ a from h]
  · rw [if_neg h]; congr 1; simp; omega

/-! RecOk -/
theorem spec_l5Based_run (i t : Int) : spec_l5Based.f i t = some (placeM i t) := by
  unfold spec_l5Based.f placeM
  simp only [spec_l1In_run, Option.bind_some, decide_eq_true_eq]
  repeat' split
  all_goals (congr 1; rw [Bool.eq_iff_iff]; simp only [decide_eq_true_eq, Bool.and_eq_true, beq_iff_eq, true_iff, Bool.false_eq_true, false_iff, iff_true, iff_false]; omega)

theorem spec_RecOk_run (k t i v : Int) (d : ByteArray) : spec_RecOk.f k t i v d = some (recOkM k t i v d.size) := by
  unfold spec_RecOk.f recOkM
  simp only [spec_l1In_run, spec_l5Based_run, Option.bind_some, decide_eq_true_eq, toList_nil]
  repeat' split
  all_goals (first | rfl | (exfalso; omega) | (congr 1; (try simp only [placeM, decide_eq_true_eq] at *); rw [Bool.eq_iff_iff]; (try simp only [decide_eq_true_eq, Bool.and_eq_true, beq_iff_eq, true_iff, Bool.false_eq_true, false_iff, iff_true, iff_false]); omega))

theorem impl_isTerm_run (a : Int) : impl_isTerm.f a = some (decide (1 ≤ a ∧ a ≤ 100000)) := by
  unfold impl_isTerm.f; rw [impl_from_run]; rfl
theorem impl_isVote_run (a : Int) : impl_isVote.f a = some (decide (-1 ≤ a ∧ a ≤ 4)) := by
  unfold impl_isVote.f; rw [impl_from_run]; rfl
theorem impl_isPlace_run (i t : Int) : impl_isPlace.f i t = some (placeM i t) := by
  unfold impl_isPlace.f placeM
  simp only [impl_from_run, impl_isTerm_run, Option.bind_some, decide_eq_true_eq]
  repeat' split
  all_goals (congr 1; rw [Bool.eq_iff_iff]; simp only [decide_eq_true_eq, Bool.and_eq_true, beq_iff_eq, true_iff, Bool.false_eq_true, false_iff, iff_true, iff_false]; omega)

theorem impl_RecOk_run (k t i v : Int) (d : ByteArray) : impl_RecOk.f k t i v d = some (recOkM k t i v d.size) := by
  unfold impl_RecOk.f recOkM
  simp only [impl_from_run, impl_isTerm_run, impl_isVote_run, impl_isPlace_run, Option.bind_some, decide_eq_true_eq, toList_nil]
  repeat' split
  all_goals (first | rfl | (exfalso; omega) | (congr 1; (try simp only [placeM, decide_eq_true_eq] at *); rw [Bool.eq_iff_iff]; (try simp only [decide_eq_true_eq, Bool.and_eq_true, beq_iff_eq, true_iff, Bool.false_eq_true, false_iff, iff_true, iff_false]); omega))

/-! Var -/
def varM (n : Int) : List Int := if 0 ≤ n ∧ n ≤ 562949953421311 then varN n.toNat else []
theorem varM_byt (n : Int) : Byt (varM n) := by
  unfold varM; split
  · exact varN_byt _
  · exact byt_nil

theorem spec_Var_run : ∀ (d k n : Nat) (xs : List Int), n < 128 ^ (d + 1) → d ≤ 7 → xs.length + d < 100 → d < k →
    spec_Var.l0 k (n : Int) xs = some (strOfNums (xs ++ varN n)) := by
  intro d
  induction d with
  | zero =>
    intro k n xs h0 h7 h1 hk
    obtain ⟨k, rfl⟩ : ∃ m, k = m + 1 := ⟨k - 1, by omega⟩
    simp only [spec_Var.l0]
    rw [if_neg (by omega), if_pos (by omega), varN_lt (by omega), show (n : Int) % 256 = n by omega]
  | succ d ih =>
    intro k n xs h0 h7 h1 hk
    obtain ⟨k, rfl⟩ : ∃ m, k = m + 1 := ⟨k - 1, by omega⟩
    simp only [spec_Var.l0]
    have hb : n < 128 ^ 9 := Nat.lt_of_lt_of_le h0 (Nat.pow_le_pow_right (by omega) (by omega))
    by_cases h : n < 128
    · rw [if_neg (by omega), if_pos (by omega), varN_lt h, show (n : Int) % 256 = n by omega]
    · rw [if_pos (by omega), if_pos (by omega), varN_ge h, tdiv_nn (by omega), tmod_nn (by omega), w64 (n := (n : Int) / 128) (by omega) (by omega), w64 (n := 128 + (n : Int) % 128) (by omega) (by omega)]
      have e : (n : Int) / 128 = ((n / 128 : Nat) : Int) := by omega
      rw [e, ih k (n / 128) _ (by rw [pow128] at h0; omega) (by omega) (by simp; omega) (by omega)]
      have e2 : (128 + (n : Int) % 128) % 256 = ((n % 128 + 128 : Nat) : Int) := by omega
      rw [e2]; simp

theorem spec_Var_f (n : Int) (k : Nat) (hk : 8 < k) : spec_Var.f k n = some (strOfNums (varM n)) := by
  unfold spec_Var.f varM
  rw [spec_l1In_run]; simp only [Option.bind_some, decide_eq_true_eq]
  by_cases h : 0 ≤ n ∧ n ≤ 562949953421311
  · rw [if_pos h, if_pos h]
    have := spec_Var_run 6 k n.toNat [] (by omega) (by omega) (by simp) (by omega)
    rw [show ((n.toNat : Nat) : Int) = n by omega] at this
    rw [this]; rfl
  · rw [if_neg h, if_neg h]; rfl

theorem impl_Var_run : ∀ (d k n : Nat) (xs : List Int), n < 128 ^ (d + 1) → d ≤ 7 → xs.length + d < 100 → d < k →
    impl_Var.l0 k (n : Int) xs = some (strOfNums (xs ++ varN n)) := by
  intro d
  induction d with
  | zero =>
    intro k n xs h0 h7 h1 hk
    obtain ⟨k, rfl⟩ : ∃ m, k = m + 1 := ⟨k - 1, by omega⟩
    simp only [impl_Var.l0]
    rw [if_neg (by omega), if_pos (by omega), varN_lt (by omega), show (n : Int) % 256 = n by omega]
  | succ d ih =>
    intro k n xs h0 h7 h1 hk
    obtain ⟨k, rfl⟩ : ∃ m, k = m + 1 := ⟨k - 1, by omega⟩
    simp only [impl_Var.l0]
    have hb : n < 128 ^ 9 := Nat.lt_of_lt_of_le h0 (Nat.pow_le_pow_right (by omega) (by omega))
    by_cases h : n < 128
    · rw [if_neg (by omega), if_pos (by omega), varN_lt h, show (n : Int) % 256 = n by omega]
    · rw [if_pos (by omega), if_pos (by omega), varN_ge h, tdiv_nn (by omega), tmod_nn (by omega), w64 (n := (n : Int) / 128) (by omega) (by omega), w64 (n := (n : Int) % 128 + 128) (by omega) (by omega)]
      have e : (n : Int) / 128 = ((n / 128 : Nat) : Int) := by omega
      rw [e, ih k (n / 128) _ (by rw [pow128] at h0; omega) (by omega) (by simp; omega) (by omega)]
      have e2 : ((n : Int) % 128 + 128) % 256 = ((n % 128 + 128 : Nat) : Int) := by omega
      rw [e2]; simp

theorem impl_Var_f (n : Int) (k : Nat) (hk : 8 < k) : impl_Var.f k n = some (strOfNums (varM n)) := by
  unfold impl_Var.f varM
  rw [impl_from_run]; simp only [Option.bind_some, decide_eq_true_eq]
  by_cases h : 0 ≤ n ∧ n ≤ 562949953421311
  · rw [if_pos h, if_pos h]
    have := impl_Var_run 6 k n.toNat [] (by omega) (by omega) (by simp) (by omega)
    rw [show ((n.toNat : Nat) : Int) = n by omega] at this
    rw [this]; rfl
  · rw [if_neg h, if_neg h]; rfl

/-! ShowRec -/
def showRecM (k t i v : Int) (d : ByteArray) : List Int := if recOkM k t i v d.size then [k] ++ varM t ++ varM i ++ varM (v + 1) ++ bytesOf d else []
theorem showRecM_byt (k t i v : Int) (d : ByteArray) : Byt (showRecM k t i v d) := by
  unfold showRecM
  split
  · rename_i h
    have hk : 0 ≤ k ∧ k < 256 := by
      unfold recOkM at h
      repeat' split at h
      all_goals (first | omega | simp at h)
    exact byt_append.2 ⟨byt_append.2 ⟨byt_append.2 ⟨byt_append.2 ⟨byt_cons.2 ⟨hk, byt_nil⟩, varM_byt _⟩, varM_byt _⟩, varM_byt _⟩, byt_bytesOf _⟩
  · exact byt_nil
theorem varM_length (n : Int) : (varM n).length ≤ 7 := by
  unfold varM; split
  · exact varN_length 6 _ (by omega)
  · simp
theorem rec_small {k t i v : Int} {n : Nat} (h : recOkM k t i v n = true) : (k = 1 ∨ k = 2 ∨ k = 3 ∨ k = 4) ∧ n ≤ 900 ∧ -1 ≤ v ∧ v ≤ 4 := by
  unfold recOkM at h
  split at h
  · simp at h; omega
  · split at h
    · simp at h; omega
    · split at h
      · simp at h; omega
      · split at h
        · simp at h; omega
        · simp at h
theorem spec_ShowRec_f (k t i v : Int) (d : ByteArray) (f : Nat) (hf : 8 < f) : spec_ShowRec.f f k t i v d = some (strOfNums (showRecM k t i v d)) := by
  unfold spec_ShowRec.f showRecM
  rw [spec_RecOk_run]
  simp only [Option.bind_some]
  by_cases h : recOkM k t i v d.size = true
  · obtain ⟨hk, hn, hv, hv2⟩ := rec_small h
    have l1 := varM_length t
    have l2 := varM_length i
    have l3 := varM_length (v + 1)
    rw [if_pos h, if_pos h, spec_Var_f _ _ hf, spec_Var_f _ _ hf, spec_Var_f _ _ hf, w64 (by omega) (by omega)]
    simp only [Option.bind_some, ByteArray.size_append, size_strOfNums, List.length_cons, List.length_nil]
    rw [if_pos (by omega), if_pos (by omega), if_pos (by omega), if_pos (by omega), show k % 256 = k by omega]
    congr 1
    rw [strOfNums_append, strOfNums_append, strOfNums_append]
    conv => lhs; rw [← strOfNums_bytesOf d]
    rw [strOfNums_append]
  · rw [if_neg h, if_neg h]; rfl

theorem impl_ShowRec_f (k t i v : Int) (d : ByteArray) (f : Nat) (hf : 8 < f) : impl_ShowRec.f f k t i v d = some (strOfNums (showRecM k t i v d)) := by
  unfold impl_ShowRec.f showRecM
  rw [impl_RecOk_run]
  simp only [Option.bind_some]
  by_cases h : recOkM k t i v d.size = true
  · obtain ⟨hk, hn, hv, hv2⟩ := rec_small h
    have l1 := varM_length t
    have l2 := varM_length i
    have l3 := varM_length (v + 1)
    rw [if_pos h, if_pos h, impl_Var_f _ _ hf, impl_Var_f _ _ hf, impl_Var_f _ _ hf, w64 (by omega) (by omega)]
    simp only [Option.bind_some, ByteArray.size_append, size_strOfNums, List.length_cons, List.length_nil]
    rw [if_pos (by omega), if_pos (by omega), if_pos (by omega), if_pos (by omega), show k % 256 = k by omega]
    congr 1
    rw [strOfNums_append, strOfNums_append, strOfNums_append]
    conv => lhs; rw [← strOfNums_bytesOf d]
    rw [strOfNums_append]
  · rw [if_neg h, if_neg h]; rfl


/-! ReadVar -/
theorem varN_cons_ge {b : Int} {t : List Int} (hb : Byt (b :: t)) (h : b ≥ 128) (ht : varN (le7 t) = t) (hne : le7 t ≠ 0) : varN (le7 (b :: t)) = b :: t := by
  obtain ⟨⟨h0, h1⟩, _⟩ := byt_cons.1 hb
  rw [le7, varN_ge (by omega)]
  congr 1
  · omega
  · rw [show ((b % 128).toNat + 128 * le7 t) / 128 = le7 t by omega, ht]

/-- The text of a number: all bytes but the last are 128 or more, the last is below 128 and, behind another, not 0. -/
theorem varN_shape (n : Nat) : ∃ (a : List Int) (c : Int), varN n = a ++ [c] ∧ (∀ x ∈ a, x ≥ 128) ∧ c < 128 ∧ (a = [] ∨ c ≠ 0) := by
  induction n using Nat.strongRecOn with
  | _ n ih =>
    by_cases h : n < 128
    · exact ⟨[], (n : Int), by rw [varN_lt h]; rfl, by simp, by omega, .inl rfl⟩
    · obtain ⟨a, c, h1, h2, h3, h4⟩ := ih (n / 128) (by omega)
      refine ⟨((n % 128 + 128 : Nat) : Int) :: a, c, by rw [varN_ge h, h1]; rfl, ?_, h3, .inr ?_⟩
      · intro x hx
        rcases List.mem_cons.1 hx with rfl | hx
        · omega
        · exact h2 x hx
      · rcases h4 with rfl | h4
        · have h5 : varN (n / 128) = [c] := h1
          have h6 := le7_varN (n / 128)
          rw [h5] at h6
          intro hc
          rw [hc] at h6
          simp [le7] at h6
          omega
        · exact h4

theorem varN_back : ∀ (a : List Int) (c : Int), Byt (a ++ [c]) → (∀ x ∈ a, x ≥ 128) → c < 128 → (a = [] ∨ c ≠ 0) → varN (le7 (a ++ [c])) = a ++ [c]
  | [], c, hb, _, hc, _ => by
    obtain ⟨⟨h0, h1⟩, _⟩ := byt_cons.1 hb
    have : le7 ([] ++ [c]) = c.toNat := by simp [le7]; omega
    rw [this, varN_lt (by omega)]
    simp; omega
  | b :: a, c, hb, ha, hc, h0 => by
    have hc0 : c ≠ 0 := by rcases h0 with h0 | h0; · cases h0
                           · exact h0
    have hb2 := (byt_cons.1 hb).2
    have ih := varN_back a c hb2 (fun x hx => ha x (List.mem_cons_of_mem _ hx)) hc (.inr hc0)
    refine varN_cons_ge hb (ha b (List.mem_cons_self)) ih (fun h => ?_)
    have h7 : varN 0 = a ++ [c] := by rw [← h]; exact ih
    rw [varN_lt (by omega)] at h7
    cases a with
    | nil => simp at h7; omega
    | cons x y => simp at h7

theorem snoc_inj {a a' : List Int} {c c' : Int} (h : a ++ [c] = a' ++ [c']) : a = a' ∧ c = c' := by
  have := List.append_inj' h rfl
  exact ⟨this.1, by simpa using this.2⟩

/-- le7 over the bytes from behind, as the reference reads them. -/
theorem le7_snoc : ∀ (l : List Int) (b : Int), le7 (l ++ [b]) = le7 l + 128 ^ l.length * (b % 128).toNat
  | [], b => by simp [le7]
  | x :: l, b => by
    rw [List.cons_append, le7, le7_snoc l b, le7, List.length_cons, pow128, Nat.mul_add]
    have : 128 * (128 ^ l.length * (b % 128).toNat) = 128 ^ l.length * 128 * (b % 128).toNat := by
      rw [← Nat.mul_assoc, Nat.mul_comm 128 (128 ^ l.length)]
    omega

theorem spec_ReadVar_inner (s : ByteArray) (x4 : Int) (h4 : x4 ≤ 7) (h5 : x4 ≤ (s.size : Int)) : ∀ (d k : Nat) (i : Int), -1 ≤ i → i + 1 = d → d ≤ x4 → d < k →
    spec_ReadVar.l1 k s x4 (le7 (((bytesOf s).take x4.toNat).drop d) : Int) i =
      (spec_Var.f (k - d - 1) (le7 ((bytesOf s).take x4.toNat) : Int)).bind fun t111 => (if 0 ≤ x4 then (if x4 ≤ (s.size : Int) then (if t111.toList = (s.extract 0 (x4 : Int).toNat).toList then (some ((le7 ((bytesOf s).take x4.toNat) : Int), x4)) else (spec_ReadVar.l0 (k - d - 1) s (wrap64 (x4 + 1)))) else (none)) else (none)) := by
  intro d
  induction d with
  | zero =>
    intro k i h0 h1 h2 hk
    obtain ⟨k, rfl⟩ : ∃ m, k = m + 1 := ⟨k - 1, by omega⟩
    simp only [spec_ReadVar.l1]
    rw [if_neg (by omega), List.drop_zero]
    simp
  | succ d ih =>
    intro k i h0 h1 h2 hk
    obtain ⟨k, rfl⟩ : ∃ m, k = m + 1 := ⟨k - 1, by omega⟩
    have hi : i = d := by omega
    subst hi
    obtain ⟨c0, c1⟩ := bt_range s (d : Int)
    have hd : ((bytesOf s).take x4.toNat).drop d = bt s (d : Int) :: ((bytesOf s).take x4.toNat).drop (d + 1) := by
      have hlt : d < ((bytesOf s).take x4.toNat).length := by rw [List.length_take, bytesOf_length]; omega
      rw [List.drop_eq_getElem_cons hlt]
      congr 1
      have h3 := bt_get (s := s) (i := (d : Int)) (by omega) (by omega)
      rw [show ((d : Int)).toNat = d by omega] at h3
      rw [List.getElem_take]
      exact Option.some.inj ((List.getElem?_eq_getElem _).symm.trans h3)
    have hb := le7_bound (((bytesOf s).take x4.toNat).drop (d + 1))
    have hl : (((bytesOf s).take x4.toNat).drop (d + 1)).length ≤ 6 := by rw [List.length_drop, List.length_take]; omega
    have hb2 : le7 (((bytesOf s).take x4.toNat).drop (d + 1)) < 128 ^ 6 := Nat.lt_of_lt_of_le hb (Nat.pow_le_pow_right (by omega) hl)
    simp only [spec_ReadVar.l1]
    rw [if_pos (by omega), if_pos (by omega), if_pos (by omega), w64 (n := bt s (d : Int)) (by omega) (by omega), tmod_nn c0, w64 (n := _ * 128) (by omega) (by omega), w64 (n := _ + _) (by omega) (by omega), w64 (n := (d : Int) - 1) (by omega) (by omega)]
    have e : ((le7 (((bytesOf s).take x4.toNat).drop (d + 1)) : Int) * 128 + bt s (d : Int) % 128) = (le7 (((bytesOf s).take x4.toNat).drop d) : Int) := by
      rw [hd, le7]; omega
    rw [e, ih k ((d : Int) - 1) (by omega) (by omega) (by omega) (by omega), show k + 1 - (d + 1) - 1 = k - d - 1 by omega]

/-- Some byte ahead of the last is below 128: no text of a number begins so. -/
theorem spec_ReadVar_none (s : ByteArray) (p : Nat) (hp : p < s.size) (hlow : bt s (p : Int) < 128) : ∀ (d k : Nat) (x4 : Int), (p : Int) + 1 < x4 → x4 + d = 8 → 30 * d + 30 < k →
    spec_ReadVar.l0 k s x4 = some (0, 0) := by
  intro d
  induction d with
  | zero =>
    intro k x4 h0 h1 hk
    obtain ⟨k, rfl⟩ : ∃ m, k = m + 2 := ⟨k - 2, by omega⟩
    simp only [spec_ReadVar.l0]
    rw [if_neg (by omega)]
    simp only [spec_ReadVar.j1]; rfl
  | succ d ih =>
    intro k x4 h0 h1 hk
    obtain ⟨k, rfl⟩ : ∃ m, k = m + 2 := ⟨k - 2, by omega⟩
    simp only [spec_ReadVar.l0]
    rw [if_pos (by omega)]
    simp only [spec_ReadVar.j1, decide_eq_true_eq]
    by_cases hs : x4 ≤ (s.size : Int)
    · rw [if_pos hs, w64 (n := x4 - 1) (by omega) (by omega)]
      have h9 := spec_ReadVar_inner s x4 (by omega) hs x4.toNat k (x4 - 1) (by omega) (by omega) (by omega) (by omega)
      rw [List.drop_of_length_le (by rw [List.length_take]; omega)] at h9
      rw [show ((le7 ([] : List Int) : Nat) : Int) = 0 from rfl] at h9
      rw [h9, spec_Var_f _ _ (by omega)]
      simp only [Option.bind_some]
      have hb := le7_bound ((bytesOf s).take x4.toNat)
      have hl : ((bytesOf s).take x4.toNat).length ≤ 7 := by rw [List.length_take]; omega
      have hb2 : le7 ((bytesOf s).take x4.toNat) < 128 ^ 7 := Nat.lt_of_lt_of_le hb (Nat.pow_le_pow_right (by omega) hl)
      rw [if_pos (by omega), if_pos hs, if_neg, w64 (n := x4 + 1) (by omega) (by omega), ih _ _ (by omega) (by omega) (by omega)]
      rw [toList_eq_iff]
      intro h
      have h := congrArg bytesOf h
      rw [bytesOf_strOfNums (varM_byt _), bytesOf_extract, List.drop_zero] at h
      unfold varM at h
      rw [if_pos (by omega)] at h
      obtain ⟨a, c, g1, g2, g3, g4⟩ := varN_shape (le7 ((bytesOf s).take x4.toNat))
      rw [show ((le7 ((bytesOf s).take x4.toNat) : Nat) : Int).toNat = le7 ((bytesOf s).take x4.toNat) by omega, g1] at h
      have hlen : a.length + 1 = x4.toNat := by
        have := congrArg List.length h
        rw [List.length_append, List.length_take, bytesOf_length] at this
        simp at this; omega
      have h3 := bt_get (s := s) (i := (p : Int)) (by omega) (by omega)
      rw [show ((p : Int)).toNat = p by omega] at h3
      have h4 : ((bytesOf s).take x4.toNat)[p]? = some (bt s (p : Int)) := by rw [List.getElem?_take_of_lt (by omega)]; exact h3
      rw [← h, List.getElem?_append_left (by omega)] at h4
      have := g2 _ (List.mem_of_getElem? h4)
      omega
    · rw [if_neg hs]

theorem spec_ReadVar_run (s : ByteArray) : ∀ (d k : Nat) (x4 : Int), 1 ≤ x4 → x4 + d = 8 → (∀ j : Nat, j + 1 < x4 → j < s.size → bt s (j : Int) ≥ 128) → (x4 - 1 ≤ (s.size : Int)) → 30 * d + 60 < k →
    spec_ReadVar.l0 k s x4 = some (rv ((bytesOf s).drop (x4 - 1).toNat) (x4 - 1).toNat (le7 ((bytesOf s).take (x4 - 1).toNat))) := by
  intro d
  induction d with
  | zero =>
    intro k x4 h0 h1 hj hsz hk
    obtain ⟨k, rfl⟩ : ∃ m, k = m + 2 := ⟨k - 2, by omega⟩
    simp only [spec_ReadVar.l0]
    rw [if_neg (by omega)]
    simp only [spec_ReadVar.j1]
    cases (bytesOf s).drop (x4 - 1).toNat with
    | nil => rfl
    | cons b t => rw [rv, if_neg (show ¬ (x4 - 1).toNat < 7 by omega)]; rfl
  | succ d ih =>
    intro k x4 h0 h1 hj hsz hk
    obtain ⟨k, rfl⟩ : ∃ m, k = m + 2 := ⟨k - 2, by omega⟩
    simp only [spec_ReadVar.l0]
    rw [if_pos (by omega)]
    simp only [spec_ReadVar.j1, decide_eq_true_eq]
    by_cases hs : x4 ≤ (s.size : Int)
    · rw [if_pos hs, w64 (n := x4 - 1) (by omega) (by omega)]
      have h9 := spec_ReadVar_inner s x4 (by omega) hs x4.toNat k (x4 - 1) (by omega) (by omega) (by omega) (by omega)
      rw [List.drop_of_length_le (by rw [List.length_take]; omega)] at h9
      rw [show ((le7 ([] : List Int) : Nat) : Int) = 0 from rfl] at h9
      rw [h9, spec_Var_f _ _ (by omega)]
      simp only [Option.bind_some]
      have hb := le7_bound ((bytesOf s).take x4.toNat)
      have hl : ((bytesOf s).take x4.toNat).length ≤ 7 := by rw [List.length_take]; omega
      have hb2 : le7 ((bytesOf s).take x4.toNat) < 128 ^ 7 := Nat.lt_of_lt_of_le hb (Nat.pow_le_pow_right (by omega) hl)
      have hlt : x4 - 1 < (s.size : Int) := by omega
      have ht := bt_take (s := s) (i := x4 - 1) (by omega) hlt
      rw [show (x4 - 1).toNat + 1 = x4.toNat by omega] at ht
      have hdr := bt_drop (s := s) (i := x4 - 1) (by omega) hlt
      obtain ⟨c0, c1⟩ := bt_range s (x4 - 1)
      rw [if_pos (by omega), if_pos hs, w64 (n := x4 + 1) (by omega) (by omega), hdr, rv, if_pos (show (x4 - 1).toNat < 7 by omega)]
      have hle : le7 ((bytesOf s).take x4.toNat) = le7 ((bytesOf s).take (x4 - 1).toNat) + 128 ^ (x4 - 1).toNat * (bt s (x4 - 1) % 128).toNat := by
        rw [ht, le7_snoc, List.length_take, bytesOf_length, Nat.min_eq_left (by omega)]
      have hlei : (le7 ((bytesOf s).take x4.toNat) : Int) = le7 ((bytesOf s).take (x4 - 1).toNat) + bt s (x4 - 1) % 128 * 128 ^ (x4 - 1).toNat := by
        rw [hle]; push_cast; rw [Int.mul_comm, show (((bt s (x4 - 1) % 128).toNat : Nat) : Int) = bt s (x4 - 1) % 128 by omega]
      have heq : (strOfNums (varM (le7 ((bytesOf s).take x4.toNat) : Int))).toList = (s.extract 0 x4.toNat).toList ↔ varN (le7 ((bytesOf s).take x4.toNat)) = (bytesOf s).take x4.toNat := by
        rw [toList_eq_iff]
        have hv : varM (le7 ((bytesOf s).take x4.toNat) : Int) = varN (le7 ((bytesOf s).take x4.toNat)) := by
          unfold varM; rw [if_pos (by omega), show ((le7 ((bytesOf s).take x4.toNat) : Nat) : Int).toNat = le7 ((bytesOf s).take x4.toNat) by omega]
        constructor
        · intro h
          have h := congrArg bytesOf h
          rwa [bytesOf_strOfNums (varM_byt _), bytesOf_extract, List.drop_zero, hv] at h
        · intro h
          apply bytesOf_inj
          rw [bytesOf_strOfNums (varM_byt _), bytesOf_extract, List.drop_zero, hv, h]
      have hall : ∀ x ∈ (bytesOf s).take (x4 - 1).toNat, x ≥ 128 := by
        intro x hx
        obtain ⟨j, hj1, hj2⟩ := List.mem_iff_getElem.1 hx
        rw [List.length_take, bytesOf_length] at hj1
        have h3 := bt_get (s := s) (i := (j : Int)) (by omega) (by omega)
        rw [show ((j : Int)).toNat = j by omega] at h3
        rw [List.getElem_take] at hj2
        have h6 : x = bt s (j : Int) := by rw [← hj2]; exact Option.some.inj ((List.getElem?_eq_getElem _).symm.trans h3)
        rw [h6]
        exact hj j (by omega) (by omega)
      have hbyt : Byt ((bytesOf s).take (x4 - 1).toNat ++ [bt s (x4 - 1)]) := by rw [← ht]; exact byt_take (byt_bytesOf s) _
      by_cases hhi : bt s (x4 - 1) ≥ 128
      · rw [if_pos hhi, if_neg, ih _ _ (by omega) (by omega) ?_ (by omega) (by omega), show (x4 + 1 - 1).toNat = x4.toNat by omega, ← hlei, show (x4 - 1).toNat + 1 = x4.toNat by omega]
        · intro j hj1 hj2
          by_cases hjx : (j : Int) + 1 < x4
          · exact hj j hjx hj2
          · have : (j : Int) = x4 - 1 := by omega
            rw [this]; exact hhi
        · rw [heq, ht]
          intro h
          obtain ⟨a, c, g1, g2, g3, g4⟩ := varN_shape (le7 ((bytesOf s).take (x4 - 1).toNat ++ [bt s (x4 - 1)]))
          rw [g1] at h
          have := (snoc_inj h).2
          omega
      · rw [if_neg hhi]
        by_cases hz : bt s (x4 - 1) = 0 ∧ (x4 - 1).toNat > 0
        · rw [if_pos hz, if_neg]
          · by_cases hd : d = 0
            · subst hd
              obtain ⟨q, hq⟩ : ∃ m, k - x4.toNat - 1 = m + 2 := ⟨k - x4.toNat - 3, by omega⟩
              rw [hq]
              simp only [spec_ReadVar.l0]
              rw [if_neg (by omega)]
              simp only [spec_ReadVar.j1]; rfl
            · exact spec_ReadVar_none s (x4 - 1).toNat (by omega) (by rw [show (((x4 - 1).toNat : Nat) : Int) = x4 - 1 by omega]; omega) d _ _ (by omega) (by omega) (by omega)
          · rw [heq, ht]
            intro h
            obtain ⟨a, c, g1, g2, g3, g4⟩ := varN_shape (le7 ((bytesOf s).take (x4 - 1).toNat ++ [bt s (x4 - 1)]))
            rw [g1] at h
            obtain ⟨k1, k2⟩ := snoc_inj h
            rcases g4 with g4 | g4
            · rw [g4] at k1
              have := congrArg List.length k1
              rw [List.length_take, bytesOf_length] at this
              simp at this
              omega
            · omega
        · rw [if_neg hz, if_pos, hlei]
          · congr 1; congr 1; omega
          · rw [heq, ht]
            refine varN_back _ _ hbyt hall (by omega) ?_
            by_cases hx1 : (x4 - 1).toNat = 0
            · left; rw [hx1]; rfl
            · right; intro h; exact hz ⟨h, by omega⟩
    · rw [if_neg hs, List.drop_of_length_le (by rw [bytesOf_length]; omega)]; rfl

theorem spec_ReadVar_f (s : ByteArray) (k : Nat) (hk : 300 < k) : spec_ReadVar.f k s = some (rv (bytesOf s) 0 0) := by
  unfold spec_ReadVar.f
  have := spec_ReadVar_run s 7 k 1 (by omega) (by omega) (fun j h => by omega) (by omega) (by omega)
  exact this

theorem pow128i (d : Nat) : (128 : Int) ^ (d + 1) = 128 ^ d * 128 := Int.pow_succ 128 d
theorem mul_pow_le {b p q : Int} (b0 : 0 ≤ b) (b1 : b ≤ 127) (hp : 0 ≤ p) (hq : p ≤ q) : 0 ≤ b * p ∧ b * p ≤ 127 * q := by
  refine ⟨Int.mul_nonneg b0 hp, ?_⟩
  exact Int.le_trans (Int.mul_le_mul_of_nonneg_right b1 hp) (by omega)
theorem impl_ReadVar_run (s : ByteArray) : ∀ (d k : Nat) (i n : Int), 0 ≤ i → i + d = 7 → 0 ≤ n → n < 128 ^ i.toNat → 2 * d + 2 < k →
    impl_ReadVar.l0 k s n i = some (rv ((bytesOf s).drop i.toNat) i.toNat n) := by
  intro d
  induction d with
  | zero =>
    intro k i n h0 h1 n0 n1 hk
    obtain ⟨k, rfl⟩ : ∃ m, k = m + 2 := ⟨k - 2, by omega⟩
    simp only [impl_ReadVar.l0]
    rw [if_neg (by omega)]
    simp only [impl_ReadVar.j1]
    cases (bytesOf s).drop i.toNat with
    | nil => rfl
    | cons b t => rw [rv, if_neg (show ¬ i.toNat < 7 by omega)]; rfl
  | succ d ih =>
    intro k i n h0 h1 n0 n1 hk
    obtain ⟨k, rfl⟩ : ∃ m, k = m + 2 := ⟨k - 2, by omega⟩
    simp only [impl_ReadVar.l0]
    rw [if_pos (by omega)]
    simp only [impl_ReadVar.j1, decide_eq_true_eq]
    by_cases hs : i < (s.size : Int)
    · obtain ⟨c0, c1⟩ := bt_range s i
      have hp : (0 : Int) < 128 ^ i.toNat := Int.pow_pos (by omega)
      have hq : (128 : Int) ^ i.toNat ≤ 4398046511104 := by
        have h : i = 0 ∨ i = 1 ∨ i = 2 ∨ i = 3 ∨ i = 4 ∨ i = 5 ∨ i = 6 := by omega
        rcases h with rfl | rfl | rfl | rfl | rfl | rfl | rfl <;> decide
      obtain ⟨m0, m1⟩ := mul_pow_le (b := bt s i % 128) (by omega) (by omega) (Int.le_of_lt hp) (Int.le_refl _)
      rw [if_pos hs, if_pos h0, if_pos hs, w64 (n := 7 * i) (by omega) (by omega), if_pos (by omega), tmod_nn c0, w64 (n := bt s i % 128) (by omega) (by omega), shl7 (by omega) (by omega) h0 (by omega), w64 (n := n + _) (by omega) (by omega), w64 (n := i + 1) (by omega) (by omega), bt_drop h0 hs, rv, if_pos (show i.toNat < 7 by omega)]
      by_cases hhi : bt s i ≥ 128
      · rw [if_pos hhi, if_pos hhi, ih _ _ _ (by omega) (by omega) (by omega) (by rw [show (i + 1).toNat = i.toNat + 1 by omega, pow128i]; omega) (by omega), show (i + 1).toNat = i.toNat + 1 by omega]
      · rw [if_neg hhi, if_neg hhi]
        have e1 : i + 1 = ((i.toNat + 1 : Nat) : Int) := by omega
        have e2 : i + 1 = ((i.toNat : Nat) : Int) + 1 := by omega
        by_cases hz : bt s i = 0
        · rw [if_pos hz]
          by_cases hi : i > 0
          · rw [if_pos hi, if_pos ⟨hz, by omega⟩]
          · rw [if_neg hi, if_neg (by omega), e2]
        · rw [if_neg hz, if_neg (by omega), e2]
    · rw [if_neg hs, List.drop_of_length_le (by rw [bytesOf_length]; omega)]; rfl

theorem impl_ReadVar_f (s : ByteArray) (k : Nat) (hk : 20 < k) : impl_ReadVar.f k s = some (rv (bytesOf s) 0 0) := by
  unfold impl_ReadVar.f
  exact impl_ReadVar_run s 7 k 0 0 (by omega) (by omega) (by omega) (by decide) (by omega)

/-! What reading a number comes to, at a place of a text -/
theorem rv_bound : ∀ (l : List Int) (i : Nat) (n : Int), Byt l → 0 ≤ n → n < 128 ^ i → i ≤ 7 → 0 ≤ (rv l i n).1 ∧ (rv l i n).1 < 562949953421312 ∧ 0 ≤ (rv l i n).2 ∧ (rv l i n).2 ≤ (i : Int) + l.length ∧ (rv l i n).2 ≤ 7
  | [], i, n, _, _, _, _ => by simp [rv]
  | b :: t, i, n, hb, h0, h1, hi => by
    obtain ⟨⟨b0, b1⟩, ht⟩ := byt_cons.1 hb
    unfold rv
    by_cases h7 : i < 7
    · rw [if_pos h7]
      have hp : (0 : Int) < 128 ^ i := Int.pow_pos (by omega)
      have hm0 : 0 ≤ b % 128 * 128 ^ i := Int.mul_nonneg (by omega) (by omega)
      have hm1 : b % 128 * 128 ^ i ≤ 127 * 128 ^ i := Int.mul_le_mul_of_nonneg_right (by omega) (by omega)
      have hs : (128 : Int) ^ (i + 1) = 128 ^ i * 128 := Int.pow_succ 128 i
      have hp7 : (128 : Int) ^ (i + 1) ≤ 562949953421312 := by
        have : i = 0 ∨ i = 1 ∨ i = 2 ∨ i = 3 ∨ i = 4 ∨ i = 5 ∨ i = 6 := by omega
        rcases this with rfl | rfl | rfl | rfl | rfl | rfl | rfl <;> decide
      generalize b % 128 * 128 ^ i = X at *
      split
      · have := rv_bound t (i + 1) (n + X) ht (by omega) (by omega) (by omega)
        rw [List.length_cons]
        omega
      · split
        · simp; omega
        · simp only [List.length_cons]; omega
    · rw [if_neg h7]; simp; omega

def rvx (s : ByteArray) (o : Int) : Int × Int := rv (bytesOf (s.extract o.toNat s.size)) 0 0
theorem rvx_bound (s : ByteArray) (o : Int) (h0 : 0 ≤ o) (h1 : o ≤ (s.size : Int)) : 0 ≤ (rvx s o).1 ∧ (rvx s o).1 < 562949953421312 ∧ 0 ≤ (rvx s o).2 ∧ o + (rvx s o).2 ≤ (s.size : Int) ∧ (rvx s o).2 ≤ 7 := by
  have := rv_bound (bytesOf (s.extract o.toNat s.size)) 0 0 (byt_bytesOf _) (by omega) (by simp) (by omega)
  have e : (bytesOf (s.extract o.toNat s.size)).length = s.size - o.toNat := by rw [bytesOf_length, ByteArray.size_extract]; omega
  rw [e] at this
  unfold rvx
  omega
theorem extract_all (s : ByteArray) : s.extract 0 s.size = s := bytesOf_inj (by rw [bytesOf_extract, List.drop_zero, List.take_of_length_le (by rw [bytesOf_length]; omega)])
theorem extract_rest (s : ByteArray) (a b : Nat) (ha : a ≤ s.size) : (s.extract a s.size).extract b (s.extract a s.size).size = s.extract (a + b) s.size := bytesOf_inj (by
  have e : (s.extract a s.size).size = s.size - a := by rw [ByteArray.size_extract]; omega
  rw [bytesOf_extract, bytesOf_extract, bytesOf_extract, e]
  have e2 : (bytesOf s).take s.size = bytesOf s := List.take_of_length_le (by rw [bytesOf_length]; omega)
  rw [e2, List.take_of_length_le (by rw [List.length_drop, bytesOf_length]; omega), List.drop_drop])

/-! ReadRec -/
def recZ : Int × Int × Int × Int × ByteArray × Bool := (0, 0, 0, 0, (⟨#[]⟩ : ByteArray), false)
def readRecM (s : ByteArray) : Int × Int × Int × Int × ByteArray × Bool :=
  if s.size = 0 then recZ else if (rvx s 1).2 = 0 then recZ else if (rvx s (1 + (rvx s 1).2)).2 = 0 then recZ else
  if (rvx s (1 + (rvx s 1).2 + (rvx s (1 + (rvx s 1).2)).2)).2 = 0 then recZ else
  if showRecM (bt s 0) (rvx s 1).1 (rvx s (1 + (rvx s 1).2)).1 ((rvx s (1 + (rvx s 1).2 + (rvx s (1 + (rvx s 1).2)).2)).1 - 1) (s.extract (1 + (rvx s 1).2 + (rvx s (1 + (rvx s 1).2)).2 + (rvx s (1 + (rvx s 1).2 + (rvx s (1 + (rvx s 1).2)).2)).2).toNat s.size) = bytesOf s then
    (bt s 0, (rvx s 1).1, (rvx s (1 + (rvx s 1).2)).1, (rvx s (1 + (rvx s 1).2 + (rvx s (1 + (rvx s 1).2)).2)).1 - 1, s.extract (1 + (rvx s 1).2 + (rvx s (1 + (rvx s 1).2)).2 + (rvx s (1 + (rvx s 1).2 + (rvx s (1 + (rvx s 1).2)).2)).2).toNat s.size, true)
  else recZ
theorem showRecM_length (k t i v : Int) (d : ByteArray) : (showRecM k t i v d).length ≤ 922 := by
  unfold showRecM
  split
  · rename_i h
    have := rec_small h
    have l1 := varM_length t
    have l2 := varM_length i
    have l3 := varM_length (v + 1)
    simp only [List.length_append, List.length_cons, List.length_nil, bytesOf_length]
    omega
  · simp
theorem showRec_text (k t i v : Int) (d s : ByteArray) : (strOfNums (showRecM k t i v d)).toList = s.toList ↔ showRecM k t i v d = bytesOf s := by
  rw [toList_eq_iff]
  constructor
  · rintro rfl; rw [bytesOf_strOfNums (showRecM_byt _ _ _ _ _)]
  · intro h; rw [h, strOfNums_bytesOf]
theorem spec_ReadRec_f (s : ByteArray) (hs : s.size ≤ 140737488351232) (k : Nat) (hk : 310 ≤ k) : spec_ReadRec.f k s = some (readRecM s) := by
  obtain ⟨k, rfl⟩ : ∃ m, k = m + 1 := ⟨k - 1, by omega⟩
  unfold spec_ReadRec.f
  by_cases h0 : s.size = 0
  · rw [if_pos (by omega)]
    simp only [spec_ReadRec.j0, readRecM, if_pos h0]; rfl
  · rw [if_neg (by omega)]
    simp only [spec_ReadRec.j0, decide_eq_true_eq]
    by_cases h1 : (s.size : Int) > 2000
    · rw [if_pos h1]
      unfold readRecM
      have h2 : ∀ k t i v d, ¬ showRecM k t i v d = bytesOf s := fun k t i v d h => by
        have := showRecM_length k t i v d
        rw [h, bytesOf_length] at this
        omega
      rw [if_neg (h2 _ _ _ _ _)]
      simp only [ite_self]; rfl
    · have hb0 := bt_range s 0
      rw [if_neg h1, if_pos (by omega), if_pos (by omega), spec_ReadVar_f _ _ (by omega)]
      simp only [Option.bind_some]
      unfold readRecM
      rw [if_neg h0, show rv (bytesOf (s.extract 1 s.size)) 0 0 = rvx s 1 from rfl]
      have B1 := rvx_bound s 1 (by omega) (by omega)
      generalize rvx s 1 = p1 at *
      rw [w64 (n := 1 + p1.2) (by omega) (by omega), if_pos (by omega), if_pos (by omega), spec_ReadVar_f _ _ (by omega)]
      simp only [Option.bind_some]
      rw [show rv (bytesOf (s.extract (1 + p1.2).toNat s.size)) 0 0 = rvx s (1 + p1.2) from rfl]
      have B2 := rvx_bound s (1 + p1.2) (by omega) (by omega)
      generalize rvx s (1 + p1.2) = p2 at *
      rw [w64 (n := 1 + p1.2 + p2.2) (by omega) (by omega), if_pos (by omega), if_pos (by omega), spec_ReadVar_f _ _ (by omega)]
      simp only [Option.bind_some]
      rw [show rv (bytesOf (s.extract (1 + p1.2 + p2.2).toNat s.size)) 0 0 = rvx s (1 + p1.2 + p2.2) from rfl]
      have B3 := rvx_bound s (1 + p1.2 + p2.2) (by omega) (by omega)
      generalize rvx s (1 + p1.2 + p2.2) = p3 at *
      rw [w64 (n := 1 + p1.2 + p2.2 + p3.2) (by omega) (by omega), if_pos (by omega), if_pos (by omega)]
      by_cases z1 : p1.2 = 0
      · rw [if_pos z1, if_pos z1]; rfl
      · rw [if_neg z1, if_neg z1]
        by_cases z2 : p2.2 = 0
        · rw [if_pos z2, if_pos z2]; rfl
        · rw [if_neg z2, if_neg z2]
          by_cases z3 : p3.2 = 0
          · rw [if_pos z3, if_pos z3]; rfl
          · rw [if_neg z3, if_neg z3, w64 (n := bt s 0) (by omega) (by omega), w64 (n := p3.1 - 1) (by omega) (by omega), spec_ShowRec_f _ _ _ _ _ _ (by omega)]
            simp only [Option.bind_some, showRec_text]
            split <;> rfl
theorem impl_num_no (s : ByteArray) (k : Nat) (hk : 301 ≤ k) (hs : s.size ≤ 140737488351232) : impl_reader_num.f k s false = some (0, s, false) := by
  unfold impl_reader_num.f
  rw [impl_ReadVar_f _ _ (by omega)]
  simp
theorem impl_num_yes (s : ByteArray) (o : Int) (k : Nat) (hk : 301 ≤ k) (hs : s.size ≤ 140737488351232) (h0 : 0 ≤ o) (h1 : o ≤ (s.size : Int)) : impl_reader_num.f k (s.extract o.toNat s.size) true =
    some (if (rvx s o).2 = 0 then (0, s.extract o.toNat s.size, false) else ((rvx s o).1, s.extract (o + (rvx s o).2).toNat s.size, true)) := by
  have e : (s.extract o.toNat s.size).size = s.size - o.toNat := by rw [ByteArray.size_extract]; omega
  unfold impl_reader_num.f
  rw [impl_ReadVar_f _ _ (by omega)]
  simp only [Option.bind_some]
  rw [if_pos trivial]
  have B := rvx_bound s o h0 h1
  rw [show rv (bytesOf (s.extract o.toNat s.size)) 0 0 = rvx s o from rfl]
  generalize rvx s o = p at *
  by_cases h : p.2 = 0
  · rw [if_neg (by omega), if_pos h]; simp; omega
  · rw [if_pos (by omega), if_pos (by omega), if_pos (by rw [e]; omega), if_neg h, extract_rest _ _ _ (by omega), show (o + p.2).toNat = o.toNat + p.2.toNat by omega]
    simp; omega
theorem impl_ReadRec_f (s : ByteArray) (hs : s.size ≤ 140737488351232) (k : Nat) (hk : 310 ≤ k) : impl_ReadRec.f k s = some (readRecM s) := by
  unfold impl_ReadRec.f impl_reader_kind.f impl_reader_bytes.f
  rw [if_pos rfl]
  by_cases h0 : s.size = 0
  · rw [if_pos (by omega)]
    simp only [Option.bind_some]
    rw [if_pos (show (⟨#[]⟩ : ByteArray).toList = [] by rw [ByteArray.toList_eq])]
    simp only [Option.bind_some]
    rw [impl_num_no s k (by omega) hs]
    simp only [Option.bind_some]
    rw [impl_num_no s k (by omega) hs]
    simp only [Option.bind_some]
    rw [impl_num_no s k (by omega) hs]
    simp only [Option.bind_some, readRecM, if_pos h0]
    rfl
  · have hb0 := bt_range s 0
    have e1 : (s.extract 0 (1 : Int).toNat).size = 1 := by rw [ByteArray.size_extract]; omega
    have e2 : bt (s.extract 0 (1 : Int).toNat) 0 = bt s 0 := by
      have h1 := bt_get (s := s.extract 0 (1 : Int).toNat) (i := 0) (by omega) (by omega)
      have h2 := bt_get (s := s) (i := 0) (by omega) (by omega)
      rw [bytesOf_extract, List.drop_zero, List.getElem?_take_of_lt (by decide)] at h1
      exact Option.some.inj (h1.symm.trans h2)
    rw [if_neg (by omega), if_pos (by omega), if_pos (by omega)]
    simp only [Option.bind_some]
    rw [if_neg (fun h => by
      rw [ByteArray.toList_eq] at h
      have := congrArg List.length h
      rw [Array.length_toList] at this
      have e3 : (s.extract 0 (1 : Int).toNat).size = (s.extract 0 (1 : Int).toNat).data.size := rfl
      simp only [List.length_nil] at this
      omega), if_pos (by omega)]
    simp only [Option.bind_some]
    rw [e2, w64 (n := bt s 0) (by omega) (by omega)]
    unfold readRecM
    rw [if_neg h0, impl_num_yes s 1 k (by omega) hs (by omega) (by omega)]
    simp only [Option.bind_some]
    have B1 := rvx_bound s 1 (by omega) (by omega)
    generalize rvx s 1 = p1 at *
    by_cases z1 : p1.2 = 0
    · rw [if_pos z1, if_pos z1]
      have e4 : (s.extract (1 : Int).toNat s.size).size ≤ 140737488351232 := by rw [ByteArray.size_extract]; omega
      rw [impl_num_no _ k (by omega) e4]
      simp only [Option.bind_some]
      rw [impl_num_no _ k (by omega) e4]
      rfl
    · rw [if_neg z1, if_neg z1]
      simp only []
      rw [impl_num_yes s (1 + p1.2) k (by omega) hs (by omega) (by omega)]
      simp only [Option.bind_some]
      have B2 := rvx_bound s (1 + p1.2) (by omega) (by omega)
      generalize rvx s (1 + p1.2) = p2 at *
      by_cases z2 : p2.2 = 0
      · rw [if_pos z2, if_pos z2]
        have e4 : (s.extract (1 + p1.2).toNat s.size).size ≤ 140737488351232 := by rw [ByteArray.size_extract]; omega
        rw [impl_num_no _ k (by omega) e4]
        rfl
      · rw [if_neg z2, if_neg z2]
        simp only []
        rw [impl_num_yes s (1 + p1.2 + p2.2) k (by omega) hs (by omega) (by omega)]
        simp only [Option.bind_some]
        have B3 := rvx_bound s (1 + p1.2 + p2.2) (by omega) (by omega)
        generalize rvx s (1 + p1.2 + p2.2) = p3 at *
        by_cases z3 : p3.2 = 0
        · rw [if_pos z3, if_pos z3]; rfl
        · rw [if_neg z3, if_neg z3]
          simp only []
          rw [if_pos trivial, w64 (n := p3.1 - 1) (by omega) (by omega), impl_ShowRec_f _ _ _ _ _ _ (by omega)]
          simp only [Option.bind_some, showRec_text]
          split <;> rfl

theorem FnExactReadRec : laws_FnExactReadRec.Pure := by
  intro s hs
  refine ⟨400, ?_⟩
  unfold laws_FnExactReadRec.f
  split
  · rfl
  · rw [spec_ReadRec_f s hs 400 (by omega), impl_ReadRec_f s hs 400 (by omega)]
    simp [laws_eqRec.f]

end Go.Proofs.Ythpdodnkcobbaaa.Pure
