/- FnExactReadVar: for every text the program's ReadVar returns what the reference's returns. -/
import Derived.Test.YtkmhjhbodocadaaPFnExactReadVarx1
import Derived.Test.YtkmhjhbodocadaaBase
import Derived.Test.YtkmhjhbodocadaaNum
namespace Go.Proofs.Ytkmhjhbodocadaa.Pure
open Go.RowKit Go.Proofs.Ytkmhjhbodocadaa.PFnExactReadVar Go.Proofs.YtkmhjhbodocadaaW.PrintWords Go.Proofs.YtkmhjhbodocadaaW.PrintLast Go.Proofs.YtkmhjhbodocadaaW.PrintMore Go.Proofs.Ytkmhjhbodocadaa.Base
set_option linter.unusedVariables false
set_option linter.unusedSimpArgs false

/-! ranges -/
theorem spec_l1In_run (a b c : Int) : spec_l1In.f a b c = some (decide (b ≤ a ∧ a ≤ c)) := by
  unfold spec_l1In.f
  by_cases h : a ≥ b
  · rw [if_pos h]; congr 1; simp [show b ≤ a from h]
  · rw [if_neg h]; congr 1; simp; omega

/-! Var -/
def varM (n : Int) : List Int := if 0 ≤ n ∧ n ≤ 562949953421311 then varN n.toNat else []
theorem varM_byt (n : Int) : Byt (varM n) := by
  unfold varM; split
  · exact varN_byt _
  · exact byt_nil

theorem spec_Var_run : ∀ (d k n : Nat) (xs : List Int), n < 128 ^ (d + 1) → d ≤ 7 → xs.length + d < 100 → d < k →
    spec_Var.l0 k (n : Int) xs = some (strOfNums (xs ++ varN n)) := by
  intro d
  induction d with
  | zero =>
    intro k n xs h0 h7 h1 hk
    obtain ⟨k, rfl⟩ : ∃ m, k = m + 1 := ⟨k - 1, by omega⟩
    simp only [spec_Var.l0]
    rw [if_neg (by omega), if_pos (by omega), varN_lt (by omega), show (n : Int) % 256 = n by omega]
  | succ d ih =>
    intro k n xs h0 h7 h1 hk
    obtain ⟨k, rfl⟩ : ∃ m, k = m + 1 := ⟨k - 1, by omega⟩
    simp only [spec_Var.l0]
    have hb : n < 128 ^ 9 := Nat.lt_of_lt_of_le h0 (Nat.pow_le_pow_right (by omega) (by omega))
    by_cases h : n < 128
    · rw [if_neg (by omega), if_pos (by omega), varN_lt h, show (n : Int) % 256 = n by omega]
    · rw [if_pos (by omega), if_pos (by omega), varN_ge h, tdiv_nn (by omega), tmod_nn (by omega), w64 (n := (n : Int) / 128) (by omega) (by omega), w64 (n := 128 + (n : Int) % 128) (by omega) (by omega)]
      have e : (n : Int) / 128 = ((n / 128 : Nat) : Int) := by omega
      rw [e, ih k (n / 128) _ (by rw [pow128] at h0; omega) (by omega) (by simp; omega) (by omega)]
      have e2 : (128 + (n : Int) % 128) % 256 = ((n % 128 + 128 : Nat) : Int) := by omega
      rw [e2]; simp

theorem spec_Var_f (n : Int) (k : Nat) (hk : 8 < k) : spec_Var.f k n = some (strOfNums (varM n)) := by
  unfold spec_Var.f varM
  rw [spec_l1In_run]; simp only [Option.bind_some, decide_eq_true_eq]
  by_cases h : 0 ≤ n ∧ n ≤ 562949953421311
  · rw [if_pos h, if_pos h]
    have := spec_Var_run 6 k n.toNat [] (by omega) (by omega) (by simp) (by omega)
    rw [show ((n.toNat : Nat) : Int) = n by omega] at this
    rw [this]; rfl
  · rw [if_neg h, if_neg h]; rfl

/-! ReadVar -/
theorem varN_cons_ge {b : Int} {t : List Int} (hb : Byt (b :: t)) (h : b ≥ 128) (ht : varN (le7 t) = t) (hne : le7 t ≠ 0) : varN (le7 (b :: t)) = b :: t := by
  obtain ⟨⟨h0, h1⟩, _⟩ := byt_cons.1 hb
  rw [le7, varN_ge (by omega)]
  congr 1
  · omega
  · rw [show ((b % 128).toNat + 128 * le7 t) / 128 = le7 t by omega, ht]

/-- The text of a number: all bytes but the last are 128 or more, the last is below 128 and, behind another, not 0. -/
theorem varN_shape (n : Nat) : ∃ (a : List Int) (c : Int), varN n = a ++ [c] ∧ (∀ x ∈ a, x ≥ 128) ∧ c < 128 ∧ (a = [] ∨ c ≠ 0) := by
  induction n using Nat.strongRecOn with
  | _ n ih =>
    by_cases h : n < 128
    · exact ⟨[], (n : Int), by rw [varN_lt h]; rfl, by simp, by omega, .inl rfl⟩
    · obtain ⟨a, c, h1, h2, h3, h4⟩ := ih (n / 128) (by omega)
      refine ⟨((n % 128 + 128 : Nat) : Int) :: a, c, by rw [varN_ge h, h1]; rfl, ?_, h3, .inr ?_⟩
      · intro x hx
        rcases List.mem_cons.1 hx with rfl | hx
        · omega
        · exact h2 x hx
      · rcases h4 with rfl | h4
        · have h5 : varN (n / 128) = [c] := h1
          have h6 := le7_varN (n / 128)
          rw [h5] at h6
          intro hc
          rw [hc] at h6
          simp [le7] at h6
          omega
        · exact h4

theorem varN_back : ∀ (a : List Int) (c : Int), Byt (a ++ [c]) → (∀ x ∈ a, x ≥ 128) → c < 128 → (a = [] ∨ c ≠ 0) → varN (le7 (a ++ [c])) = a ++ [c]
  | [], c, hb, _, hc, _ => by
    obtain ⟨⟨h0, h1⟩, _⟩ := byt_cons.1 hb
    have : le7 ([] ++ [c]) = c.toNat := by simp [le7]; omega
    rw [this, varN_lt (by omega)]
    simp; omega
  | b :: a, c, hb, ha, hc, h0 => by
    have hc0 : c ≠ 0 := by rcases h0 with h0 | h0; · cases h0
                           · exact h0
    have hb2 := (byt_cons.1 hb).2
    have ih := varN_back a c hb2 (fun x hx => ha x (List.mem_cons_of_mem _ hx)) hc (.inr hc0)
    refine varN_cons_ge hb (ha b (List.mem_cons_self)) ih (fun h => ?_)
    have h7 : varN 0 = a ++ [c] := by rw [← h]; exact ih
    rw [varN_lt (by omega)] at h7
    cases a with
    | nil => simp at h7; omega
    | cons x y => simp at h7

theorem snoc_inj {a a' : List Int} {c c' : Int} (h : a ++ [c] = a' ++ [c']) : a = a' ∧ c = c' := by
  have := List.append_inj' h rfl
  exact ⟨this.1, by simpa using this.2⟩

/-- le7 over the bytes from behind, as the reference reads them. -/
theorem le7_snoc : ∀ (l : List Int) (b : Int), le7 (l ++ [b]) = le7 l + 128 ^ l.length * (b % 128).toNat
  | [], b => by simp [le7]
  | x :: l, b => by
    rw [List.cons_append, le7, le7_snoc l b, le7, List.length_cons, pow128, Nat.mul_add]
    have : 128 * (128 ^ l.length * (b % 128).toNat) = 128 ^ l.length * 128 * (b % 128).toNat := by
      rw [← Nat.mul_assoc, Nat.mul_comm 128 (128 ^ l.length)]
    omega

theorem spec_ReadVar_inner (s : ByteArray) (x4 : Int) (h4 : x4 ≤ 7) (h5 : x4 ≤ (s.size : Int)) : ∀ (d k : Nat) (i : Int), -1 ≤ i → i + 1 = d → d ≤ x4 → d < k →
    spec_ReadVar.l1 k s x4 (le7 (((bytesOf s).take x4.toNat).drop d) : Int) i =
      (spec_Var.f (k - d - 1) (le7 ((bytesOf s).take x4.toNat) : Int)).bind fun t111 => (if 0 ≤ x4 then (if x4 ≤ (s.size : Int) then (if t111.toList = (s.extract 0 (x4 : Int).toNat).toList then (some ((le7 ((bytesOf s).take x4.toNat) : Int), x4)) else (spec_ReadVar.l0 (k - d - 1) s (wrap64 (x4 + 1)))) else (none)) else (none)) := by
  intro d
  induction d with
  | zero =>
    intro k i h0 h1 h2 hk
    obtain ⟨k, rfl⟩ : ∃ m, k = m + 1 := ⟨k - 1, by omega⟩
    simp only [spec_ReadVar.l1]
    rw [if_neg (by omega), List.drop_zero]
    simp
  | succ d ih =>
    intro k i h0 h1 h2 hk
    obtain ⟨k, rfl⟩ : ∃ m, k = m + 1 := ⟨k - 1, by omega⟩
    have hi : i = d := by omega
    subst hi
    obtain ⟨c0, c1⟩ := bt_range s (d : Int)
    have hd : ((bytesOf s).take x4.toNat).drop d = bt s (d : Int) :: ((bytesOf s).take x4.toNat).drop (d + 1) := by
      have hlt : d < ((bytesOf s).take x4.toNat).length := by rw [List.length_take, bytesOf_length]; omega
      rw [List.drop_eq_getElem_cons hlt]
      congr 1
      have h3 := bt_get (s := s) (i := (d : Int)) (by omega) (by omega)
      rw [show ((d : Int)).toNat = d by omega] at h3
      rw [List.getElem_take]
      exact Option.some.inj ((List.getElem?_eq_getElem _).symm.trans h3)
    have hb := le7_bound (((bytesOf s).take x4.toNat).drop (d + 1))
    have hl : (((bytesOf s).take x4.toNat).drop (d + 1)).length ≤ 6 := by rw [List.length_drop, List.length_take]; omega
    have hb2 : le7 (((bytesOf s).take x4.toNat).drop (d + 1)) < 128 ^ 6 := Nat.lt_of_lt_of_le hb (Nat.pow_le_pow_right (by omega) hl)
    simp only [spec_ReadVar.l1]
    rw [if_pos (by omega), if_pos (by omega), if_pos (by omega), w64 (n := bt s (d : Int)) (by omega) (by omega), tmod_nn c0, w64 (n := _ * 128) (by omega) (by omega), w64 (n := _ + _) (by omega) (by omega), w64 (n := (d : Int) - 1) (by omega) (by omega)]
    have e : ((le7 (((bytesOf s).take x4.toNat).drop (d + 1)) : Int) * 128 + bt s (d : Int) % 128) = (le7 (((bytesOf s).take x4.toNat).drop d) : Int) := by
      rw [hd, le7]; omega
    rw [e, ih k ((d : Int) - 1) (by omega) (by omega) (by omega) (by omega), show k + 1 - (d + 1) - 1 = k - d - 1 by omega]

/-- Some byte ahead of the last is below 128: no text of a number begins so. -/
theorem spec_ReadVar_none (s : ByteArray) (p : Nat) (hp : p < s.size) (hlow : bt s (p : Int) < 128) : ∀ (d k : Nat) (x4 : Int), (p : Int) + 1 < x4 → x4 + d = 8 → 30 * d + 30 < k →
    spec_ReadVar.l0 k s x4 = some (0, 0) := by
  intro d
  induction d with
  | zero =>
    intro k x4 h0 h1 hk
    obtain ⟨k, rfl⟩ : ∃ m, k = m + 2 := ⟨k - 2, by omega⟩
    simp only [spec_ReadVar.l0]
    rw [if_neg (by omega)]
    simp only [spec_ReadVar.j1]; rfl
  | succ d ih =>
    intro k x4 h0 h1 hk
    obtain ⟨k, rfl⟩ : ∃ m, k = m + 2 := ⟨k - 2, by omega⟩
    simp only [spec_ReadVar.l0]
    rw [if_pos (by omega)]
    simp only [spec_ReadVar.j1, decide_eq_true_eq]
    by_cases hs : x4 ≤ (s.size : Int)
    · rw [if_pos hs, w64 (n := x4 - 1) (by omega) (by omega)]
      have h9 := spec_ReadVar_inner s x4 (by omega) hs x4.toNat k (x4 - 1) (by omega) (by omega) (by omega) (by omega)
      rw [List.drop_of_length_le (by rw [List.length_take]; omega)] at h9
      rw [show ((le7 ([] : List Int) : Nat) : Int) = 0 from rfl] at h9
      rw [h9, spec_Var_f _ _ (by omega)]
      simp only [Option.bind_some]
      have hb := le7_bound ((bytesOf s).take x4.toNat)
      have hl : ((bytesOf s).take x4.toNat).length ≤ 7 := by rw [List.length_take]; omega
      have hb2 : le7 ((bytesOf s).take x4.toNat) < 128 ^ 7 := Nat.lt_of_lt_of_le hb (Nat.pow_le_pow_right (by omega) hl)
      rw [if_pos (by omega), if_pos hs, if_neg, w64 (n := x4 + 1) (by omega) (by omega), ih _ _ (by omega) (by omega) (by omega)]
      rw [toList_eq_iff]
      intro h
      have h := congrArg bytesOf h
      rw [bytesOf_strOfNums (varM_byt _), bytesOf_extract, List.drop_zero] at h
      unfold varM at h
      rw [if_pos (by omega)] at h
      obtain ⟨a, c, g1, g2, g3, g4⟩ := varN_shape (le7 ((bytesOf s).take x4.toNat))
      rw [show ((le7 ((bytesOf s).take x4.toNat) : Nat) : Int).toNat = le7 ((bytesOf s).take x4.toNat) by omega, g1] at h
      have hlen : a.length + 1 = x4.toNat := by
        have := congrArg List.length h
        rw [List.length_append, List.length_take, bytesOf_length] at this
        simp at this; omega
      have h3 := bt_get (s := s) (i := (p : Int)) (by omega) (by omega)
      rw [show ((p : Int)).toNat = p by omega] at h3
      have h4 : ((bytesOf s).take x4.toNat)[p]? = some (bt s (p : Int)) := by rw [List.getElem?_take_of_lt (by omega)]; exact h3
      rw [← h, List.getElem?_append_left (by omega)] at h4
      have := g2 _ (List.mem_of_getElem? h4)
      omega
    · rw [if_neg hs]

theorem spec_ReadVar_run (s : ByteArray) : ∀ (d k : Nat) (x4 : Int), 1 ≤ x4 → x4 + d = 8 → (∀ j : Nat, j + 1 < x4 → j < s.size → bt s (j : Int) ≥ 128) → (x4 - 1 ≤ (s.size : Int)) → 30 * d + 60 < k →
    spec_ReadVar.l0 k s x4 = some (rv ((bytesOf s).drop (x4 - 1).toNat) (x4 - 1).toNat (le7 ((bytesOf s).take (x4 - 1).toNat))) := by
  intro d
  induction d with
  | zero =>
    intro k x4 h0 h1 hj hsz hk
    obtain ⟨k, rfl⟩ : ∃ m, k = m + 2 := ⟨k - 2, by omega⟩
    simp only [spec_ReadVar.l0]
    rw [if_neg (by omega)]
    simp only [spec_ReadVar.j1]
    cases (bytesOf s).drop (x4 - 1).toNat with
    | nil => rfl
    | cons b t => rw [rv, if_neg (show ¬ (x4 - 1).toNat < 7 by omega)]; rfl
  | succ d ih =>
    intro k x4 h0 h1 hj hsz hk
    obtain ⟨k, rfl⟩ : ∃ m, k = m + 2 := ⟨k - 2, by omega⟩
    simp only [spec_ReadVar.l0]
    rw [if_pos (by omega)]
    simp only [spec_ReadVar.j1, decide_eq_true_eq]
    by_cases hs : x4 ≤ (s.size : Int)
    · rw [if_pos hs, w64 (n := x4 - 1) (by omega) (by omega)]
      have h9 := spec_ReadVar_inner s x4 (by omega) hs x4.toNat k (x4 - 1) (by omega) (by omega) (by omega) (by omega)
      rw [List.drop_of_length_le (by rw [List.length_take]; omega)] at h9
      rw [show ((le7 ([] : List Int) : Nat) : Int) = 0 from rfl] at h9
      rw [h9, spec_Var_f _ _ (by omega)]
      simp only [Option.bind_some]
      have hb := le7_bound ((bytesOf s).take x4.toNat)
      have hl : ((bytesOf s).take x4.toNat).length ≤ 7 := by rw [List.length_take]; omega
      have hb2 : le7 ((bytesOf s).take x4.toNat) < 128 ^ 7 := Nat.lt_of_lt_of_le hb (Nat.pow_le_pow_right (by omega) hl)
      have hlt : x4 - 1 < (s.size : Int) := by omega
      have ht := bt_take (s := s) (i := x4 - 1) (by omega) hlt
      rw [show (x4 - 1).toNat + 1 = x4.toNat by omega] at ht
      have hdr := bt_drop (s := s) (i := x4 - 1) (by omega) hlt
      obtain ⟨c0, c1⟩ := bt_range s (x4 - 1)
      rw [if_pos (by omega), if_pos hs, w64 (n := x4 + 1) (by omega) (by omega), hdr, rv, if_pos (show (x4 - 1).toNat < 7 by omega)]
      have hle : le7 ((bytesOf s).take x4.toNat) = le7 ((bytesOf s).take (x4 - 1).toNat) + 128 ^ (x4 - 1).toNat * (bt s (x4 - 1) % 128).toNat := by
        rw [ht, le7_snoc, List.length_take, bytesOf_length, Nat.min_eq_left (by omega)]
      have hlei : (le7 ((bytesOf s).take x4.toNat) : Int) = le7 ((bytesOf s).take (x4 - 1).toNat) + bt s (x4 - 1) % 128 * 128 ^ (x4 - 1).toNat := by
        rw [hle]; push_cast; rw [Int.mul_comm, show (((bt s (x4 - 1) % 128).toNat : Nat) : Int) = bt s (x4 - 1) % 128 by omega]
      have heq : (strOfNums (varM (le7 ((bytesOf s).take x4.toNat) : Int))).toList = (s.extract 0 x4.toNat).toList ↔ varN (le7 ((bytesOf s).take x4.toNat)) = (bytesOf s).take x4.toNat := by
        rw [toList_eq_iff]
        have hv : varM (le7 ((bytesOf s).take x4.toNat) : Int) = varN (le7 ((bytesOf s).take x4.toNat)) := by
          unfold varM; rw [if_pos (by omega), show ((le7 ((bytesOf s).take x4.toNat) : Nat) : Int).toNat = le7 ((bytesOf s).take x4.toNat) by omega]
        constructor
        · intro h
          have h := congrArg bytesOf h
          rwa [bytesOf_strOfNums (varM_byt _), bytesOf_extract, List.drop_zero, hv] at h
        · intro h
          apply bytesOf_inj
          rw [bytesOf_strOfNums (varM_byt _), bytesOf_extract, List.drop_zero, hv, h]
      have hall : ∀ x ∈ (bytesOf s).take (x4 - 1).toNat, x ≥ 128 := by
        intro x hx
        obtain ⟨j, hj1, hj2⟩ := List.mem_iff_getElem.1 hx
        rw [List.length_take, bytesOf_length] at hj1
        have h3 := bt_get (s := s) (i := (j : Int)) (by omega) (by omega)
        rw [show ((j : Int)).toNat = j by omega] at h3
        rw [List.getElem_take] at hj2
        have h6 : x = bt s (j : Int) := by rw [← hj2]; exact Option.some.inj ((List.getElem?_eq_getElem _).symm.trans h3)
        rw [h6]
        exact hj j (by omega) (by omega)
      have hbyt : Byt ((bytesOf s).take (x4 - 1).toNat ++ [bt s (x4 - 1)]) := by rw [← ht]; exact byt_take (byt_bytesOf s) _
      by_cases hhi : bt s (x4 - 1) ≥ 128
      · rw [if_pos hhi, if_neg, ih _ _ (by omega) (by omega) ?_ (by omega) (by omega), show (x4 + 1 - 1).toNat = x4.toNat by omega, ← hlei, show (x4 - 1).toNat + 1 = x4.toNat by omega]
        · intro j hj1 hj2
          by_cases hjx : (j : Int) + 1 < x4
          · exact hj j hjx hj2
          · have : (j : Int) = x4 - 1 := by omega
            rw [this]; exact hhi
        · rw [heq, ht]
          intro h
          obtain ⟨a, c, g1, g2, g3, g4⟩ := varN_shape (le7 ((bytesOf s).take (x4 - 1).toNat ++ [bt s (x4 - 1)]))
          rw [g1] at h
          have := (snoc_inj h).2
          omega
      · rw [if_neg hhi]
        by_cases hz : bt s (x4 - 1) = 0 ∧ (x4 - 1).toNat > 0
        · rw [if_pos hz, if_neg]
          · by_cases hd : d = 0
            · subst hd
              obtain ⟨q, hq⟩ : ∃ m, k - x4.toNat - 1 = m + 2 := ⟨k - x4.toNat - 3, by omega⟩
              rw [hq]
              simp only [spec_ReadVar.l0]
              rw [if_neg (by omega)]
              simp only [spec_ReadVar.j1]; rfl
            · exact spec_ReadVar_none s (x4 - 1).toNat (by omega) (by rw [show (((x4 - 1).toNat : Nat) : Int) = x4 - 1 by omega]; omega) d _ _ (by omega) (by omega) (by omega)
          · rw [heq, ht]
            intro h
            obtain ⟨a, c, g1, g2, g3, g4⟩ := varN_shape (le7 ((bytesOf s).take (x4 - 1).toNat ++ [bt s (x4 - 1)]))
            rw [g1] at h
            obtain ⟨k1, k2⟩ := snoc_inj h
            rcases g4 with g4 | g4
            · rw [g4] at k1
              have := congrArg List.length k1
              rw [List.length_take, bytesOf_length] at this
              simp at this
              omega
            · omega
        · rw [if_neg hz, if_pos, hlei]
          · congr 1; congr 1; omega
          · rw [heq, ht]
            refine varN_back _ _ hbyt hall (by omega) ?_
            by_cases hx1 : (x4 - 1).toNat = 0
            · left; rw [hx1]; rfl
            · right; intro h; exact hz ⟨h, by omega⟩
    · rw [if_neg hs, List.drop_of_length_le (by rw [bytesOf_length]; omega)]; rfl

theorem spec_ReadVar_f (s : ByteArray) (k : Nat) (hk : 300 < k) : spec_ReadVar.f k s = some (rv (bytesOf s) 0 0) := by
  unfold spec_ReadVar.f
  have := spec_ReadVar_run s 7 k 1 (by omega) (by omega) (fun j h => by omega) (by omega) (by omega)
  exact this

theorem pow128i (d : Nat) : (128 : Int) ^ (d + 1) = 128 ^ d * 128 := Int.pow_succ 128 d
theorem mul_pow_le {b p q : Int} (b0 : 0 ≤ b) (b1 : b ≤ 127) (hp : 0 ≤ p) (hq : p ≤ q) : 0 ≤ b * p ∧ b * p ≤ 127 * q := by
  refine ⟨Int.mul_nonneg b0 hp, ?_⟩
  exact Int.le_trans (Int.mul_le_mul_of_nonneg_right b1 hp) (by omega)
theorem impl_ReadVar_run (s : ByteArray) : ∀ (d k : Nat) (i n : Int), 0 ≤ i → i + d = 7 → 0 ≤ n → n < 128 ^ i.toNat → 2 * d + 2 < k →
    impl_ReadVar.l0 k s n i = some (rv ((bytesOf s).drop i.toNat) i.toNat n) := by
  intro d
  induction d with
  | zero =>
    intro k i n h0 h1 n0 n1 hk
    obtain ⟨k, rfl⟩ : ∃ m, k = m + 2 := ⟨k - 2, by omega⟩
    simp only [impl_ReadVar.l0]
    rw [if_neg (by omega)]
    simp only [impl_ReadVar.j1]
    cases (bytesOf s).drop i.toNat with
    | nil => rfl
    | cons b t => rw [rv, if_neg (show ¬ i.toNat < 7 by omega)]; rfl
  | succ d ih =>
    intro k i n h0 h1 n0 n1 hk
    obtain ⟨k, rfl⟩ : ∃ m, k = m + 2 := ⟨k - 2, by omega⟩
    simp only [impl_ReadVar.l0]
    rw [if_pos (by omega)]
    simp only [impl_ReadVar.j1, decide_eq_true_eq]
    by_cases hs : i < (s.size : Int)
    · obtain ⟨c0, c1⟩ := bt_range s i
      have hp : (0 : Int) < 128 ^ i.toNat := Int.pow_pos (by omega)
      have hq : (128 : Int) ^ i.toNat ≤ 4398046511104 := by
        have h : i = 0 ∨ i = 1 ∨ i = 2 ∨ i = 3 ∨ i = 4 ∨ i = 5 ∨ i = 6 := by omega
        rcases h with rfl | rfl | rfl | rfl | rfl | rfl | rfl <;> decide
      obtain ⟨m0, m1⟩ := mul_pow_le (b := bt s i % 128) (by omega) (by omega) (Int.le_of_lt hp) (Int.le_refl _)
      rw [if_pos hs, if_pos h0, if_pos hs, w64 (n := 7 * i) (by omega) (by omega), if_pos (by omega), tmod_nn c0, w64 (n := bt s i % 128) (by omega) (by omega), shl7 (by omega) (by omega) h0 (by omega), w64 (n := n + _) (by omega) (by omega), w64 (n := i + 1) (by omega) (by omega), bt_drop h0 hs, rv, if_pos (show i.toNat < 7 by omega)]
      by_cases hhi : bt s i ≥ 128
      · rw [if_pos hhi, if_pos hhi, ih _ _ _ (by omega) (by omega) (by omega) (by rw [show (i + 1).toNat = i.toNat + 1 by omega, pow128i]; omega) (by omega), show (i + 1).toNat = i.toNat + 1 by omega]
      · rw [if_neg hhi, if_neg hhi]
        have e1 : i + 1 = ((i.toNat + 1 : Nat) : Int) := by omega
        have e2 : i + 1 = ((i.toNat : Nat) : Int) + 1 := by omega
        by_cases hz : bt s i = 0
        · rw [if_pos hz]
          by_cases hi : i > 0
          · rw [if_pos hi, if_pos ⟨hz, by omega⟩]
          · rw [if_neg hi, if_neg (by omega), e2]
        · rw [if_neg hz, if_neg (by omega), e2]
    · rw [if_neg hs, List.drop_of_length_le (by rw [bytesOf_length]; omega)]; rfl

theorem impl_ReadVar_f (s : ByteArray) (k : Nat) (hk : 20 < k) : impl_ReadVar.f k s = some (rv (bytesOf s) 0 0) := by
  unfold impl_ReadVar.f
  exact impl_ReadVar_run s 7 k 0 0 (by omega) (by omega) (by omega) (by decide) (by omega)

theorem FnExactReadVar : laws_FnExactReadVar.Pure := by
  intro s hs
  refine ⟨301, ?_⟩
  unfold laws_FnExactReadVar.f
  split
  · rfl
  · rw [spec_ReadVar_f s 301 (by omega), impl_ReadVar_f s 301 (by omega)]; simp

end Go.Proofs.Ytkmhjhbodocadaa.Pure
