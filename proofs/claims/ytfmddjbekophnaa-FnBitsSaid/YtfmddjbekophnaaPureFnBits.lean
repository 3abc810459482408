/- Numbers that rise and values are read from what they are shown as, whatever stands behind. -/
import Derived.Test.YtfmddjbekophnaaPFnBitsx1
import Derived.Test.YtfmddjbekophnaaPFnBitsx2
import Derived.Test.YtfmddjbekophnaaPFnBitsx3
import Derived.Test.YtfmddjbekophnaaPFnBitsx4
import Derived.Test.YtfmddjbekophnaaPFnBitsx5
import Derived.Test.YtfmddjbekophnaaPFnBitsx6
import Derived.Test.YtfmddjbekophnaaPFnBitsx7
import Derived.Test.YtfmddjbekophnaaPFnBitsx8
import Derived.Test.YtfmddjbekophnaaPFnBitsx9
import Derived.Test.YtfmddjbekophnaaBase
import Derived.Test.YtfmddjbekophnaaNum
import Derived.Test.YtfmddjbekophnaaNumRec
import Derived.Test.YtfmddjbekophnaaNumBits
namespace Go.Proofs.Ytfmddjbekophnaa.Pure
open Go.RowKit Go.Proofs.Ytfmddjbekophnaa.PFnBits Go.Proofs.YtfmddjbekophnaaW.PrintWords Go.Proofs.YtfmddjbekophnaaW.PrintLast Go.Proofs.YtfmddjbekophnaaW.PrintMore Go.Proofs.Ytfmddjbekophnaa.Base
set_option linter.unusedVariables false
set_option linter.unusedSimpArgs false

/-! ranges -/
theorem spec_l1In_run (a b c : Int) : spec_l1In.f a b c = some (decide (b ≤ a ∧ a ≤ c)) := by
  unfold spec_l1In.f
  by_cases h : a ≥ b
  · rw [if_pos h]; congr 1; simp [show b ≤ a from h]
  · rw [if_neg h]; congr 1; simp; omega

theorem impl_from_run (a b c : Int) : impl_from.f a b c = some (decide (b ≤ a ∧ a ≤ c)) := by
  unfold impl_from.f
  by_cases h : a ≥ b
  · rw [if_pos h]; congr 1; simp [show b ≤ a from h]
  · rw [if_neg h]; congr 1; simp; omega

/-! slices of numbers -/
theorem rd_at (a b : List Int) (x i : Int) (h : i = a.length) : rd (a ++ x :: b) i = x := by
  subst h; simp [rd, List.getD]
theorem set_at (a b : List Int) (x y : Int) : (a ++ x :: b).set ((a.length : Int)).toNat y = a ++ y :: b := by
  rw [show ((a.length : Int)).toNat = a.length by omega, List.set_append_right _ _ (Nat.le_refl _), Nat.sub_self, List.set_cons_zero]

/-! Var -/
theorem spec_Var_run : ∀ (d k n : Nat) (xs : List Int), n < 128 ^ (d + 1) → d ≤ 7 → xs.length + d < 100 → d < k →
    spec_Var.l0 k (n : Int) xs = some (strOfNums (xs ++ varN n)) := by
  intro d
  induction d with
  | zero =>
    intro k n xs h0 h7 h1 hk
    obtain ⟨k, rfl⟩ : ∃ m, k = m + 1 := ⟨k - 1, by omega⟩
    simp only [spec_Var.l0]
    rw [if_neg (by omega), if_pos (by omega), varN_lt (by omega), show (n : Int) % 256 = n by omega]
  | succ d ih =>
    intro k n xs h0 h7 h1 hk
    obtain ⟨k, rfl⟩ : ∃ m, k = m + 1 := ⟨k - 1, by omega⟩
    simp only [spec_Var.l0]
    have hb : n < 128 ^ 9 := Nat.lt_of_lt_of_le h0 (Nat.pow_le_pow_right (by omega) (by omega))
    by_cases h : n < 128
    · rw [if_neg (by omega), if_pos (by omega), varN_lt h, show (n : Int) % 256 = n by omega]
    · rw [if_pos (by omega), if_pos (by omega), varN_ge h, tdiv_nn (by omega), tmod_nn (by omega), w64 (n := (n : Int) / 128) (by omega) (by omega), w64 (n := 128 + (n : Int) % 128) (by omega) (by omega)]
      have e : (n : Int) / 128 = ((n / 128 : Nat) : Int) := by omega
      rw [e, ih k (n / 128) _ (by rw [pow128] at h0; omega) (by omega) (by simp; omega) (by omega)]
      have e2 : (128 + (n : Int) % 128) % 256 = ((n % 128 + 128 : Nat) : Int) := by omega
      rw [e2]; simp

theorem spec_Var_f (n : Int) (k : Nat) (hk : 8 < k) : spec_Var.f k n = some (strOfNums (varM n)) := by
  unfold spec_Var.f varM
  rw [spec_l1In_run]; simp only [Option.bind_some, decide_eq_true_eq]
  by_cases h : 0 ≤ n ∧ n ≤ 562949953421311
  · rw [if_pos h, if_pos h]
    have := spec_Var_run 6 k n.toNat [] (by omega) (by omega) (by simp) (by omega)
    rw [show ((n.toNat : Nat) : Int) = n by omega] at this
    rw [this]; rfl
  · rw [if_neg h, if_neg h]; rfl

theorem impl_Var_run : ∀ (d k n : Nat) (xs : List Int), n < 128 ^ (d + 1) → d ≤ 7 → xs.length + d < 100 → d < k →
    impl_Var.l0 k (n : Int) xs = some (strOfNums (xs ++ varN n)) := by
  intro d
  induction d with
  | zero =>
    intro k n xs h0 h7 h1 hk
    obtain ⟨k, rfl⟩ : ∃ m, k = m + 1 := ⟨k - 1, by omega⟩
    simp only [impl_Var.l0]
    rw [if_neg (by omega), if_pos (by omega), varN_lt (by omega), show (n : Int) % 256 = n by omega]
  | succ d ih =>
    intro k n xs h0 h7 h1 hk
    obtain ⟨k, rfl⟩ : ∃ m, k = m + 1 := ⟨k - 1, by omega⟩
    simp only [impl_Var.l0]
    have hb : n < 128 ^ 9 := Nat.lt_of_lt_of_le h0 (Nat.pow_le_pow_right (by omega) (by omega))
    by_cases h : n < 128
    · rw [if_neg (by omega), if_pos (by omega), varN_lt h, show (n : Int) % 256 = n by omega]
    · rw [if_pos (by omega), if_pos (by omega), varN_ge h, tdiv_nn (by omega), tmod_nn (by omega), w64 (n := (n : Int) / 128) (by omega) (by omega), w64 (n := (n : Int) % 128 + 128) (by omega) (by omega)]
      have e : (n : Int) / 128 = ((n / 128 : Nat) : Int) := by omega
      rw [e, ih k (n / 128) _ (by rw [pow128] at h0; omega) (by omega) (by simp; omega) (by omega)]
      have e2 : ((n : Int) % 128 + 128) % 256 = ((n % 128 + 128 : Nat) : Int) := by omega
      rw [e2]; simp

theorem impl_Var_f (n : Int) (k : Nat) (hk : 8 < k) : impl_Var.f k n = some (strOfNums (varM n)) := by
  unfold impl_Var.f varM
  rw [impl_from_run]; simp only [Option.bind_some, decide_eq_true_eq]
  by_cases h : 0 ≤ n ∧ n ≤ 562949953421311
  · rw [if_pos h, if_pos h]
    have := impl_Var_run 6 k n.toNat [] (by omega) (by omega) (by simp) (by omega)
    rw [show ((n.toNat : Nat) : Int) = n by omega] at this
    rw [this]; rfl
  · rw [if_neg h, if_neg h]; rfl

/-! zigzag -/
theorem spec_ZigZag_run (n : Int) : spec_ZigZag.f n = some (zigM n) := by
  unfold spec_ZigZag.f
  rw [spec_l1In_run]; simp only [Option.bind_some, zigM, decide_eq_true_eq]
  by_cases h : -140737488355328 ≤ n ∧ n ≤ 140737488355328
  · rw [if_pos h, if_pos h]
    by_cases h0 : n < 0
    · rw [if_pos h0, if_pos h0, w64 (n := (-2) * n) (by omega) (by omega), w64 (by omega) (by omega)]
    · rw [if_neg h0, if_neg h0, w64 (by omega) (by omega)]
  · rw [if_neg h, if_neg h]

theorem impl_ZigZag_run (n : Int) : impl_ZigZag.f n = some (zigM n) := by
  unfold impl_ZigZag.f
  rw [impl_from_run, impl_from_run]; simp only [Option.bind_some, zigM, decide_eq_true_eq]
  by_cases h : 0 ≤ n ∧ n ≤ 140737488355328
  · rw [if_pos h, if_pos (by omega), if_neg (by omega), w64 (by omega) (by omega)]
  · rw [if_neg h]
    by_cases h2 : -140737488355328 ≤ n ∧ n ≤ -1
    · rw [if_pos h2, if_pos (by omega), if_pos (by omega), w64 (n := (-2) * n) (by omega) (by omega), w64 (by omega) (by omega)]
    · rw [if_neg h2, if_neg (by omega)]

/-! and back -/
def unzM (z : Int) : Int × Bool := if 0 ≤ z ∧ z ≤ 281474976710656 then (if z % 2 = 1 then (-(z / 2) - 1, true) else (z / 2, true)) else (0, false)

theorem impl_UnZig_run (z : Int) : impl_UnZig.f z = some (unzM z) := by
  unfold impl_UnZig.f
  rw [impl_from_run]; simp only [Option.bind_some, unzM, decide_eq_true_eq]
  by_cases h : 0 ≤ z ∧ z ≤ 281474976710656
  · rw [if_pos h, if_pos h, tmod_nn (by omega)]
    by_cases h3 : z % 2 = 1
    · rw [if_pos h3, if_pos h3, w64 (n := z + 1) (by omega) (by omega), w64 (n := -(z + 1)) (by omega) (by omega)]
      have : Int.tdiv (-(z + 1)) 2 = -(z / 2) - 1 := by rw [Int.neg_tdiv, tdiv_nn (by omega)]; omega
      rw [this, w64 (by omega) (by omega)]
    · rw [if_neg h3, if_neg h3, tdiv_nn (by omega), w64 (by omega) (by omega)]
  · rw [if_neg h, if_neg h]

/-! ShowValues -/
theorem spec_l7Values_run : ∀ (b a : List Int) (k : Nat), a.length + b.length ≤ 1048576 → b.length < k → spec_l7Values.l0 k (a ++ b) (a.length : Int) = some (inV b) := by
  intro b
  induction b with
  | nil =>
    intro a k h0 hk
    obtain ⟨q, rfl⟩ : ∃ m, k = m + 1 := ⟨k - 1, by omega⟩
    simp only [spec_l7Values.l0]; rw [if_neg (by simp)]; rfl
  | cons x b ih =>
    intro a k h0 hk
    simp only [List.length_cons] at h0 hk
    obtain ⟨q, rfl⟩ : ∃ m, k = m + 1 := ⟨k - 1, by omega⟩
    have f := ih (a ++ [x]) q (by simp; omega) (by omega)
    rw [List.append_assoc, List.singleton_append, show (((a ++ [x]).length : Nat) : Int) = (a.length : Int) + 1 by simp] at f
    simp only [spec_l7Values.l0]
    rw [if_pos (by simp; omega), if_pos (by omega), rd_at _ _ _ _ rfl, spec_l1In_run, w64 (n := (a.length : Int) + 1) (by omega) (by omega), f]
    simp only [Option.bind_some, decide_eq_true_eq, inV, List.all_cons]
    split
    · rename_i h; rw [decide_eq_true h, Bool.true_and]
    · rename_i h; rw [decide_eq_false h, Bool.false_and]
theorem inV_cons {x : Int} {b : List Int} (h : inV (x :: b) = true) : (-1099511627776 ≤ x ∧ x ≤ 1099511627776) ∧ inV b = true := by
  simp only [inV, List.all_cons, Bool.and_eq_true, decide_eq_true_eq] at h
  exact h
theorem spec_ShowValues_run : ∀ (b a : List Int) (k : Nat) (s : List Int) (last : Int), a.length + b.length ≤ 1048576 → s.length ≤ 7 * a.length → -1099511627776 ≤ last → last ≤ 1099511627776 → inV b = true → b.length + 10 < k →
    spec_ShowValues.l0 k (a ++ b) (strOfNums s) last (a.length : Int) = some (strOfNums (s ++ valM last b)) := by
  intro b
  induction b with
  | nil =>
    intro a k s last h0 hs l0 l1 hv hk
    obtain ⟨q, rfl⟩ : ∃ m, k = m + 1 := ⟨k - 1, by omega⟩
    simp only [spec_ShowValues.l0]; rw [if_neg (by simp)]; simp [valM]
  | cons x b ih =>
    intro a k s last h0 hs l0 l1 hv hk
    simp only [List.length_cons] at h0 hk
    obtain ⟨⟨x0, x1⟩, hv2⟩ := inV_cons hv
    obtain ⟨q, rfl⟩ : ∃ m, k = m + 1 := ⟨k - 1, by omega⟩
    have lv := varM_length (zigM (x - last))
    have f := ih (a ++ [x]) q (s ++ varM (zigM (x - last))) x (by simp; omega) (by simp; omega) x0 x1 hv2 (by omega)
    rw [List.append_assoc, List.singleton_append, show (((a ++ [x]).length : Nat) : Int) = (a.length : Int) + 1 by simp] at f
    simp only [spec_ShowValues.l0]
    rw [if_pos (by simp; omega), if_pos (by omega), rd_at _ _ _ _ rfl, w64 (n := x - last) (by omega) (by omega), spec_ZigZag_run]
    simp only [Option.bind_some]
    rw [spec_Var_f _ _ (by omega)]
    simp only [Option.bind_some]
    rw [if_pos (by rw [size_strOfNums, size_strOfNums]; omega), w64 (n := (a.length : Int) + 1) (by omega) (by omega), strOfNums_append, f, valM, List.append_assoc]
theorem spec_ShowValues_f (l : List Int) (hl : l.length ≤ 1048576) (k : Nat) (hk : 1048600 < k) : spec_ShowValues.f k l = some (strOfNums (showValM l)) := by
  unfold spec_ShowValues.f spec_l7Values.f showValM
  rw [spec_l1In_run]
  simp only [Option.bind_some, decide_eq_true_eq]
  by_cases h : 1 ≤ (l.length : Int) ∧ (l.length : Int) ≤ 60
  · have e := spec_l7Values_run l [] k (by simp; omega) (by omega)
    simp only [List.nil_append, List.length_nil] at e
    rw [if_pos h, show (0 : Int) = ((0 : Nat) : Int) from rfl, e]
    simp only [Option.bind_some]
    by_cases hv : inV l = true
    · have f := spec_ShowValues_run l [] k [] 0 (by simp; omega) (by simp) (by omega) (by omega) hv (by omega)
      simp only [List.nil_append, List.length_nil] at f
      rw [if_pos hv, if_pos ⟨h.1, h.2, hv⟩]; exact f
    · rw [if_neg hv, if_neg (fun g => hv g.2.2)]; rfl
  · rw [if_neg h, if_neg (fun g => h ⟨g.1, g.2.1⟩)]; rfl

theorem impl_zig_f (n : Int) (k : Nat) (hk : 8 < k) : impl_zig.f k n = some (strOfNums (varM (zigM n))) := by
  unfold impl_zig.f
  rw [impl_ZigZag_run]; simp only [Option.bind_some]; rw [impl_Var_f _ _ hk]; rfl
theorem inV_consI {x : Int} {b : List Int} : inV (x :: b) = (decide (-1099511627776 ≤ x ∧ x ≤ 1099511627776) && inV b) := rfl
theorem impl_ShowValues_run : ∀ (b a : List Int) (k : Nat) (s : List Int) (last : Int), a.length + b.length ≤ 1048576 → s.length ≤ 7 * a.length → -1099511627776 ≤ last → last ≤ 1099511627776 → b.length + 10 < k →
    impl_ShowValues.l0 k (a ++ b) (strOfNums s) last (a ++ b) ((a ++ b).length : Int) (a.length : Int) = some (if 1 ≤ ((a ++ b).length : Int) ∧ ((a ++ b).length : Int) ≤ 60 ∧ inV b = true then strOfNums (s ++ valM last b) else ⟨#[]⟩) := by
  intro b
  induction b with
  | nil =>
    intro a k s last h0 hs l0 l1 hk
    obtain ⟨q, rfl⟩ : ∃ m, k = m + 1 := ⟨k - 1, by omega⟩
    simp only [impl_ShowValues.l0]; rw [if_neg (by simp), impl_from_run]
    simp only [Option.bind_some, decide_eq_true_eq, valM, List.append_nil]
    by_cases h : 1 ≤ (a.length : Int) ∧ (a.length : Int) ≤ 60
    · rw [if_pos h, if_pos ⟨h.1, h.2, rfl⟩]
    · rw [if_neg h, if_neg (fun g => h ⟨g.1, g.2.1⟩)]
  | cons x b ih =>
    intro a k s last h0 hs l0 l1 hk
    simp only [List.length_cons] at h0 hk
    obtain ⟨q, rfl⟩ : ∃ m, k = m + 1 := ⟨k - 1, by omega⟩
    have lv := varM_length (zigM (x - last))
    simp only [impl_ShowValues.l0]
    rw [if_pos (by simp; omega), if_pos (by omega), if_pos (by simp; omega), rd_at _ _ _ _ rfl, impl_from_run]
    simp only [Option.bind_some, decide_eq_true_eq]
    by_cases hx : -1099511627776 ≤ x ∧ x ≤ 1099511627776
    · have f := ih (a ++ [x]) q (s ++ varM (zigM (x - last))) x (by simp; omega) (by simp; omega) hx.1 hx.2 (by omega)
      rw [List.append_assoc, List.singleton_append, show (((a ++ [x]).length : Nat) : Int) = (a.length : Int) + 1 by simp] at f
      rw [if_pos hx, w64 (n := x - last) (by omega) (by omega), impl_zig_f _ _ (by omega)]
      simp only [Option.bind_some]
      rw [if_pos (by rw [size_strOfNums, size_strOfNums]; omega), w64 (n := (a.length : Int) + 1) (by omega) (by omega), strOfNums_append, f, valM, List.append_assoc, inV_consI, decide_eq_true hx, Bool.true_and]
    · rw [if_neg hx, inV_consI, decide_eq_false hx, Bool.false_and, if_neg (by simp)]
theorem impl_ShowValues_f (l : List Int) (hl : l.length ≤ 1048576) (k : Nat) (hk : 1048600 < k) : impl_ShowValues.f k l = some (strOfNums (showValM l)) := by
  unfold impl_ShowValues.f showValM
  have f := impl_ShowValues_run l [] k [] 0 (by simp; omega) (by simp) (by omega) (by omega) (by omega)
  simp only [List.nil_append, List.length_nil] at f
  refine Eq.trans f ?_
  split <;> rfl

/-! ShowTimes -/
theorem rd_at2 (a b : List Int) (p x i : Int) (h : i = a.length + 1) : rd (a ++ p :: x :: b) i = x := by
  rw [List.append_cons]; exact rd_at _ _ _ _ (by rw [List.length_append]; simp only [List.length_singleton]; omega)
theorem rd_at3 (a b : List Int) (p q x i : Int) (h : i = a.length + 2) : rd (a ++ p :: q :: x :: b) i = x := by
  rw [List.append_cons]; exact rd_at2 _ _ _ _ _ (by simp only [List.length_append, List.length_singleton]; omega)

theorem spec_l7Rise_run : ∀ (b a : List Int) (p : Int) (k : Nat), a.length + 1 + b.length ≤ 1048576 → b.length < k → 0 ≤ p →
    spec_l7Rise.l0 k (a ++ p :: b) ((a.length : Int) + 1) = some (risM p b) := by
  intro b
  induction b with
  | nil =>
    intro a p k h0 hk hp
    obtain ⟨q, rfl⟩ : ∃ m, k = m + 1 := ⟨k - 1, by omega⟩
    simp only [spec_l7Rise.l0]; rw [if_neg (by simp)]; rfl
  | cons x b ih =>
    intro a p k h0 hk hp
    simp only [List.length_cons] at h0 hk
    obtain ⟨q, rfl⟩ : ∃ m, k = m + 1 := ⟨k - 1, by omega⟩
    simp only [spec_l7Rise.l0]
    rw [if_pos (by simp; omega), if_pos (by omega), rd_at2 _ _ _ _ _ rfl, spec_l1In_run, w64 (n := (a.length : Int) + 1 - 1) (by omega) (by omega), rd_at _ _ _ _ (show (a.length : Int) + 1 - 1 = a.length by omega)]
    simp only [Option.bind_some, decide_eq_true_eq, risM]
    by_cases hx : 0 ≤ x ∧ x ≤ 1099511627776
    · rw [if_pos hx, if_pos (by omega), if_pos (by omega), if_pos (by simp; omega)]
      by_cases hp2 : p ≥ x
      · rw [if_pos hp2, decide_eq_false (by omega), Bool.false_and]
      · have f := ih (a ++ [p]) x q (by simp; omega) (by omega) hx.1
        rw [← List.append_cons, show (((a ++ [p]).length : Nat) : Int) = (a.length : Int) + 1 by simp] at f
        rw [if_neg hp2, w64 (n := (a.length : Int) + 1 + 1) (by omega) (by omega), f, decide_eq_true (show p < x ∧ 0 ≤ x ∧ x ≤ 1099511627776 by omega), Bool.true_and]
    · rw [if_neg hx, decide_eq_false (by omega), Bool.false_and]
theorem spec_l7Rise_f (l : List Int) (k : Nat) (hk : 70 < k) : spec_l7Rise.f k l = some (decide (1 ≤ (l.length : Int) ∧ (l.length : Int) ≤ 60) && riseM l) := by
  unfold spec_l7Rise.f
  rw [spec_l1In_run]
  simp only [Option.bind_some, decide_eq_true_eq]
  by_cases h : 1 ≤ (l.length : Int) ∧ (l.length : Int) ≤ 60
  · rw [if_pos h, decide_eq_true h, Bool.true_and]
    cases l with
    | nil => simp at h
    | cons t r =>
      simp only [List.length_cons] at h
      obtain ⟨q, rfl⟩ : ∃ m, k = m + 1 := ⟨k - 1, by omega⟩
      simp only [spec_l7Rise.l0]
      have e0 : rd (t :: r) 0 = t := rfl
      rw [if_pos (by simp only [List.length_cons]; omega), if_pos (by omega), e0, spec_l1In_run]
      simp only [Option.bind_some, decide_eq_true_eq, riseM]
      by_cases ht : 0 ≤ t ∧ t ≤ 1099511627776
      · have f := spec_l7Rise_run r [] t q (by simp; omega) (by omega) ht.1
        simp only [List.nil_append, List.length_nil] at f
        rw [if_pos ht, if_neg (by omega), w64 (by omega) (by omega), decide_eq_true ht, Bool.true_and]
        exact f
      · rw [if_neg ht, decide_eq_false ht, Bool.false_and]
  · rw [if_neg h, decide_eq_false h, Bool.false_and]

theorem risM_cons {p x : Int} {b : List Int} (h : risM p (x :: b) = true) : (p < x ∧ 0 ≤ x ∧ x ≤ 1099511627776) ∧ risM x b = true := by
  simp only [risM, Bool.and_eq_true, decide_eq_true_eq] at h
  exact h
theorem spec_ShowTimes_run2 : ∀ (b a : List Int) (p q : Int) (k : Nat) (s : List Int), a.length + 2 + b.length ≤ 60 → s.length ≤ 7 * (a.length + 2) → 0 ≤ p → p ≤ 1099511627776 → 0 ≤ q → q ≤ 1099511627776 → risM q b = true → b.length + 10 < k →
    spec_ShowTimes.l0 k (a ++ p :: q :: b) (strOfNums s) ((a.length : Int) + 2) = some (strOfNums (s ++ tim2 p q b)) := by
  intro b
  induction b with
  | nil =>
    intro a p q k s h0 hs p0 p1 q0 q1 hv hk
    obtain ⟨f, rfl⟩ : ∃ m, k = m + 1 := ⟨k - 1, by omega⟩
    simp only [spec_ShowTimes.l0]; rw [if_neg (by simp)]; simp [tim2]
  | cons x b ih =>
    intro a p q k s h0 hs p0 p1 q0 q1 hv hk
    simp only [List.length_cons] at h0 hk
    obtain ⟨⟨x0, x1, x2⟩, hv2⟩ := risM_cons hv
    obtain ⟨f, rfl⟩ : ∃ m, k = m + 1 := ⟨k - 1, by omega⟩
    have lv := varM_length (zigM (x - q - (q - p)))
    have g := ih (a ++ [p]) q x f (s ++ varM (zigM (x - q - (q - p)))) (by simp; omega) (by simp; omega) q0 q1 x1 x2 hv2 (by omega)
    rw [← List.append_cons, show (((a ++ [p]).length : Nat) : Int) = (a.length : Int) + 1 by simp] at g
    simp only [spec_ShowTimes.l0]
    rw [if_pos (by simp; omega), if_pos (by omega), w64 (n := (a.length : Int) + 2 - 1) (by omega) (by omega), w64 (n := (a.length : Int) + 2 - 2) (by omega) (by omega), if_pos (by omega), if_pos (by simp; omega), if_neg (by omega), if_pos (by omega), if_pos (by simp; omega), rd_at3 _ _ _ _ _ _ rfl, rd_at2 _ _ _ _ _ (show (a.length : Int) + 2 - 1 = a.length + 1 by omega), rd_at _ _ _ _ (show (a.length : Int) + 2 - 2 = a.length by omega), w64 (n := x - q) (by omega) (by omega), w64 (n := q - p) (by omega) (by omega), w64 (n := x - q - (q - p)) (by omega) (by omega), spec_ZigZag_run]
    simp only [Option.bind_some]
    rw [spec_Var_f _ _ (by omega)]
    simp only [Option.bind_some]
    rw [if_pos (by rw [size_strOfNums, size_strOfNums]; omega), w64 (n := (a.length : Int) + 2 + 1) (by omega) (by omega), strOfNums_append, show (a.length : Int) + 2 + 1 = (a.length : Int) + 1 + 2 by omega, g, tim2, List.append_assoc]
theorem spec_ShowTimes_f (l : List Int) (k : Nat) (hk : 100 < k) : spec_ShowTimes.f k l = some (strOfNums (showTimM l)) := by
  unfold spec_ShowTimes.f showTimM
  rw [spec_l7Rise_f _ _ (by omega)]
  simp only [Option.bind_some]
  by_cases h : 1 ≤ (l.length : Int) ∧ (l.length : Int) ≤ 60
  · rw [decide_eq_true h, Bool.true_and]
    by_cases hr : riseM l = true
    · have hc : 1 ≤ (l.length : Int) ∧ (l.length : Int) ≤ 60 ∧ riseM l = true := ⟨h.1, h.2, hr⟩
      rw [if_pos hr, if_pos (show 0 < (l.length : Int) by omega), if_pos hc]
      cases l with
      | nil => simp at h
      | cons t r =>
        simp only [List.length_cons] at h
        simp only [riseM, Bool.and_eq_true, decide_eq_true_eq] at hr
        have e0 : rd (t :: r) 0 = t := rfl
        have lv := varM_length t
        rw [e0, spec_Var_f _ _ (by omega)]
        simp only [Option.bind_some, timM]
        obtain ⟨f, rfl⟩ : ∃ m, k = m + 1 := ⟨k - 1, by omega⟩
        cases r with
        | nil => simp only [spec_ShowTimes.l0]; rw [if_neg (by simp)]; simp [tim1]
        | cons u r =>
          simp only [List.length_cons] at h
          obtain ⟨⟨u0, u1, u2⟩, hv2⟩ := risM_cons hr.2
          have e1 : rd (t :: u :: r) 1 = u := rfl
          have lu := varM_length (u - t)
          have g := spec_ShowTimes_run2 r [] t u f (varM t ++ varM (u - t)) (by simp; omega) (by simp; omega) hr.1.1 hr.1.2 u1 u2 hv2 (by omega)
          simp only [List.nil_append, List.length_nil] at g
          simp only [spec_ShowTimes.l0]
          rw [if_pos (by simp; omega), if_pos (by omega), w64 (n := 1 - 1) (by omega) (by omega), if_pos (by omega), if_pos (by simp; omega), if_pos trivial, e1, show (1 : Int) - 1 = 0 by omega, e0, w64 (n := u - t) (by omega) (by omega), spec_Var_f _ _ (by omega)]
          simp only [Option.bind_some]
          rw [if_pos (by rw [size_strOfNums, size_strOfNums]; omega), w64 (by omega) (by omega), strOfNums_append]
          refine Eq.trans g ?_
          simp [tim1]
    · rw [if_neg hr, if_neg (fun g => hr g.2.2)]; rfl
  · rw [decide_eq_false h, Bool.false_and, if_neg (by decide), if_neg (fun g => h ⟨g.1, g.2.1⟩)]; rfl

theorem impl_zig_ft (n : Int) (k : Nat) (hk : 8 < k) : impl_zig.f k n = some (strOfNums (varM (zigM n))) := by
  unfold impl_zig.f
  rw [impl_ZigZag_run]; simp only [Option.bind_some]; rw [impl_Var_f _ _ hk]; rfl
theorem impl_ShowTimes_end (l : List Int) (k : Nat) (s : ByteArray) : impl_ShowTimes.l0 (k + 1) l s l (l.length : Int) (l.length : Int) = some (if 1 ≤ (l.length : Int) ∧ (l.length : Int) ≤ 60 then s else ⟨#[]⟩) := by
  simp only [impl_ShowTimes.l0]; rw [if_neg (by omega), impl_from_run]
  simp only [Option.bind_some, decide_eq_true_eq]
  split <;> rfl
theorem impl_ShowTimes_run2 : ∀ (b a : List Int) (p q : Int) (k : Nat) (s : List Int), a.length + 2 + b.length ≤ 1048576 → s.length ≤ 7 * (a.length + 2) → 0 ≤ p → p ≤ 1099511627776 → 0 ≤ q → q ≤ 1099511627776 → 2 * b.length + 10 < k →
    impl_ShowTimes.l0 k (a ++ p :: q :: b) (strOfNums s) (a ++ p :: q :: b) ((a ++ p :: q :: b).length : Int) ((a.length : Int) + 2) = some (if 1 ≤ ((a ++ p :: q :: b).length : Int) ∧ ((a ++ p :: q :: b).length : Int) ≤ 60 ∧ risM q b = true then strOfNums (s ++ tim2 p q b) else ⟨#[]⟩) := by
  intro b
  induction b with
  | nil =>
    intro a p q k s h0 hs p0 p1 q0 q1 hk
    obtain ⟨f, rfl⟩ : ∃ m, k = m + 1 := ⟨k - 1, by omega⟩
    have e : (a.length : Int) + 2 = ((a ++ [p, q]).length : Int) := by simp
    rw [e, impl_ShowTimes_end]
    simp only [risM, and_true, tim2, List.append_nil]
  | cons x b ih =>
    intro a p q k s h0 hs p0 p1 q0 q1 hk
    simp only [List.length_cons] at h0 hk
    obtain ⟨f, rfl⟩ : ∃ m, k = m + 2 := ⟨k - 2, by omega⟩
    obtain ⟨g', hg'⟩ : ∃ m, f + 1 = m := ⟨_, rfl⟩
    rw [show f + 2 = g' + 1 by omega]
    have lv := varM_length (zigM (x - q - (q - p)))
    simp only [impl_ShowTimes.l0]
    rw [if_pos (by simp; omega), if_pos (by omega), if_pos (by simp; omega), rd_at3 _ _ _ _ _ _ rfl, impl_from_run, ← hg']
    simp only [Option.bind_some, decide_eq_true_eq]
    by_cases hx : 0 ≤ x ∧ x ≤ 1099511627776
    · rw [if_pos hx, if_pos (show (a.length : Int) + 2 > 0 by omega), w64 (n := (a.length : Int) + 2 - 1) (by omega) (by omega), if_pos (by omega), if_pos (by simp; omega), rd_at2 _ _ _ _ _ (show (a.length : Int) + 2 - 1 = a.length + 1 by omega)]
      simp only [impl_ShowTimes.j1]
      by_cases hq : q ≥ x
      · rw [if_pos (by simpa using hq), if_neg (fun g => by have := g.2.2; simp only [riseM, risM, Bool.and_eq_true, decide_eq_true_eq] at this; omega)]
      · have g := ih (a ++ [p]) q x f (s ++ varM (zigM (x - q - (q - p)))) (by simp; omega) (by simp; omega) q0 q1 hx.1 hx.2 (by omega)
        rw [← List.append_cons, show (((a ++ [p]).length : Nat) : Int) = (a.length : Int) + 1 by simp] at g
        rw [if_neg (by simpa using hq), if_neg (by omega), if_neg (by omega), w64 (n := (a.length : Int) + 2 - 1) (by omega) (by omega), w64 (n := (a.length : Int) + 2 - 2) (by omega) (by omega), if_pos (by omega), if_pos (by simp; omega), if_pos (by omega), if_pos (by simp; omega), rd_at2 _ _ _ _ _ (show (a.length : Int) + 2 - 1 = a.length + 1 by omega), rd_at _ _ _ _ (show (a.length : Int) + 2 - 2 = a.length by omega), w64 (n := x - q) (by omega) (by omega), w64 (n := q - p) (by omega) (by omega), w64 (n := x - q - (q - p)) (by omega) (by omega), impl_zig_ft _ _ (by omega)]
        simp only [Option.bind_some]
        rw [if_pos (by rw [size_strOfNums, size_strOfNums]; omega), w64 (n := (a.length : Int) + 2 + 1) (by omega) (by omega), strOfNums_append, show (a.length : Int) + 2 + 1 = (a.length : Int) + 1 + 2 by omega, g, tim2, List.append_assoc]
        have hT : risM q (x :: b) = risM x b := by simp only [risM, decide_eq_true (show q < x ∧ 0 ≤ x ∧ x ≤ 1099511627776 by omega), Bool.true_and]
        simp only [hT]
    · rw [if_neg hx]
      simp only [impl_ShowTimes.j1]
      rw [if_pos trivial, if_neg (fun g => by have := g.2.2; simp only [riseM, risM, Bool.and_eq_true, decide_eq_true_eq] at this; omega)]
theorem impl_ShowTimes_f (l : List Int) (hl : l.length ≤ 1048576) (k : Nat) (hk : 2097200 < k) : impl_ShowTimes.f k l = some (strOfNums (showTimM l)) := by
  unfold impl_ShowTimes.f showTimM
  cases l with
  | nil =>
    obtain ⟨f, rfl⟩ : ∃ m, k = m + 1 := ⟨k - 1, by omega⟩
    rw [show (0 : Int) = (([] : List Int).length : Int) from rfl, impl_ShowTimes_end]; rfl
  | cons t r =>
    have e0 : rd (t :: r) 0 = t := rfl
    have lt := varM_length t
    obtain ⟨f, rfl⟩ : ∃ m, k = m + 2 := ⟨k - 2, by omega⟩
    obtain ⟨g', hg'⟩ : ∃ m, f + 1 = m := ⟨_, rfl⟩
    rw [show f + 2 = g' + 1 by omega]
    simp only [impl_ShowTimes.l0]
    simp only [List.length_cons] at hl
    rw [if_pos (by simp only [List.length_cons]; omega), if_pos (by omega), if_pos (by simp only [List.length_cons]; omega), e0, impl_from_run, ← hg']
    simp only [Option.bind_some, decide_eq_true_eq]
    by_cases ht : 0 ≤ t ∧ t ≤ 1099511627776
    · rw [if_pos ht, if_neg (show ¬ (0 : Int) > 0 by omega)]
      have hT : riseM (t :: r) = risM t r := by simp only [riseM, decide_eq_true ht, Bool.true_and]
      simp only [hT]
      simp only [impl_ShowTimes.j1]
      rw [if_neg (by decide), if_pos trivial, impl_Var_f _ _ (by omega)]
      simp only [Option.bind_some]
      rw [if_pos (by rw [size_strOfNums]; show 0 + _ ≤ _; omega), w64 (by omega) (by omega), show (⟨#[]⟩ : ByteArray) ++ strOfNums (varM t) = strOfNums (varM t) from by rw [show (⟨#[]⟩ : ByteArray) = strOfNums [] from rfl, strOfNums_append]; rfl, show (0 : Int) + 1 = 1 by omega]
      cases r with
      | nil =>
        obtain ⟨f, rfl⟩ : ∃ m, f = m + 1 := ⟨f - 1, by omega⟩
        have := impl_ShowTimes_end [t] f (strOfNums (varM t))
        refine Eq.trans this ?_
        rw [if_pos (by simp), if_pos (by simp [risM])]; simp [timM, tim1]
      | cons u r =>
        have e1 : rd (t :: u :: r) 1 = u := rfl
        have lu := varM_length (u - t)
        simp only [List.length_cons] at hl
        obtain ⟨f2, rfl⟩ : ∃ m, f = m + 2 := ⟨f - 2, by omega⟩
        obtain ⟨g2, hg2⟩ : ∃ m, f2 + 1 = m := ⟨_, rfl⟩
        rw [show f2 + 2 = g2 + 1 by omega]
        simp only [impl_ShowTimes.l0]
        rw [if_pos (by simp; omega), if_pos (by omega), if_pos (by simp; omega), e1, impl_from_run, ← hg2]
        simp only [Option.bind_some, decide_eq_true_eq]
        by_cases hu : 0 ≤ u ∧ u ≤ 1099511627776
        · rw [if_pos hu, if_pos (by omega), w64 (n := 1 - 1) (by omega) (by omega), if_pos (by omega), if_pos (by simp; omega), show (1 : Int) - 1 = 0 by omega, e0]
          simp only [impl_ShowTimes.j1]
          by_cases hq : t ≥ u
          · rw [if_pos (by simpa using hq), if_neg (fun g => by have := g.2.2; simp only [riseM, risM, Bool.and_eq_true, decide_eq_true_eq] at this; omega)]; rfl
          · have g := impl_ShowTimes_run2 r [] t u f2 (varM t ++ varM (u - t)) (by simp; omega) (by simp; omega) ht.1 ht.2 hu.1 hu.2 (by omega)
            simp only [List.nil_append, List.length_nil] at g
            rw [if_neg (by simpa using hq), if_neg (by omega), if_pos trivial, if_pos (by simp; omega), e0, w64 (n := u - t) (by omega) (by omega), impl_Var_f _ _ (by omega)]
            simp only [Option.bind_some]
            rw [if_pos (by rw [size_strOfNums, size_strOfNums]; omega), w64 (n := 1 + 1) (by omega) (by omega), strOfNums_append]
            have hT2 : risM t (u :: r) = risM u r := by simp only [risM, decide_eq_true (show t < u ∧ 0 ≤ u ∧ u ≤ 1099511627776 by omega), Bool.true_and]
            simp only [hT2]
            refine Eq.trans g ?_
            simp only [timM, tim1, List.append_assoc]
            split <;> rfl
        · rw [if_neg hu]
          simp only [impl_ShowTimes.j1]
          rw [if_pos trivial, if_neg (fun g => by have := g.2.2; simp only [riseM, risM, Bool.and_eq_true, decide_eq_true_eq] at this; omega)]; rfl
    · rw [if_neg ht]
      simp only [impl_ShowTimes.j1]
      rw [if_pos trivial, if_neg (fun g => by have := g.2.2; simp only [riseM, risM, Bool.and_eq_true, decide_eq_true_eq] at this; omega)]; rfl

/-! ReadVar -/
theorem varN_cons_ge {b : Int} {t : List Int} (hb : Byt (b :: t)) (h : b ≥ 128) (ht : varN (le7 t) = t) (hne : le7 t ≠ 0) : varN (le7 (b :: t)) = b :: t := by
  obtain ⟨⟨h0, h1⟩, _⟩ := byt_cons.1 hb
  rw [le7, varN_ge (by omega)]
  congr 1
  · omega
  · rw [show ((b % 128).toNat + 128 * le7 t) / 128 = le7 t by omega, ht]

/-- The text of a number: all bytes but the last are 128 or more, the last is below 128 and, behind another, not 0. -/
theorem varN_shape (n : Nat) : ∃ (a : List Int) (c : Int), varN n = a ++ [c] ∧ (∀ x ∈ a, x ≥ 128) ∧ c < 128 ∧ (a = [] ∨ c ≠ 0) := by
  induction n using Nat.strongRecOn with
  | _ n ih =>
    by_cases h : n < 128
    · exact ⟨[], (n : Int), by rw [varN_lt h]; rfl, by simp, by omega, .inl rfl⟩
    · obtain ⟨a, c, h1, h2, h3, h4⟩ := ih (n / 128) (by omega)
      refine ⟨((n % 128 + 128 : Nat) : Int) :: a, c, by rw [varN_ge h, h1]; rfl, ?_, h3, .inr ?_⟩
      · intro x hx
        rcases List.mem_cons.1 hx with rfl | hx
        · omega
        · exact h2 x hx
      · rcases h4 with rfl | h4
        · have h5 : varN (n / 128) = [c] := h1
          have h6 := le7_varN (n / 128)
          rw [h5] at h6
          intro hc
          rw [hc] at h6
          simp [le7] at h6
          omega
        · exact h4

theorem varN_back : ∀ (a : List Int) (c : Int), Byt (a ++ [c]) → (∀ x ∈ a, x ≥ 128) → c < 128 → (a = [] ∨ c ≠ 0) → varN (le7 (a ++ [c])) = a ++ [c]
  | [], c, hb, _, hc, _ => by
    obtain ⟨⟨h0, h1⟩, _⟩ := byt_cons.1 hb
    have : le7 ([] ++ [c]) = c.toNat := by simp [le7]; omega
    rw [this, varN_lt (by omega)]
    simp; omega
  | b :: a, c, hb, ha, hc, h0 => by
    have hc0 : c ≠ 0 := by rcases h0 with h0 | h0; · cases h0
                           · exact h0
    have hb2 := (byt_cons.1 hb).2
    have ih := varN_back a c hb2 (fun x hx => ha x (List.mem_cons_of_mem _ hx)) hc (.inr hc0)
    refine varN_cons_ge hb (ha b (List.mem_cons_self)) ih (fun h => ?_)
    have h7 : varN 0 = a ++ [c] := by rw [← h]; exact ih
    rw [varN_lt (by omega)] at h7
    cases a with
    | nil => simp at h7; omega
    | cons x y => simp at h7

theorem snoc_inj {a a' : List Int} {c c' : Int} (h : a ++ [c] = a' ++ [c']) : a = a' ∧ c = c' := by
  have := List.append_inj' h rfl
  exact ⟨this.1, by simpa using this.2⟩

/-- le7 over the bytes from behind, as the reference reads them. -/
theorem le7_snoc : ∀ (l : List Int) (b : Int), le7 (l ++ [b]) = le7 l + 128 ^ l.length * (b % 128).toNat
  | [], b => by simp [le7]
  | x :: l, b => by
    rw [List.cons_append, le7, le7_snoc l b, le7, List.length_cons, pow128, Nat.mul_add]
    have : 128 * (128 ^ l.length * (b % 128).toNat) = 128 ^ l.length * 128 * (b % 128).toNat := by
      rw [← Nat.mul_assoc, Nat.mul_comm 128 (128 ^ l.length)]
    omega

/-- Some byte ahead of the last is below 128: no text of a number begins so. -/

theorem pow128i (d : Nat) : (128 : Int) ^ (d + 1) = 128 ^ d * 128 := Int.pow_succ 128 d
theorem mul_pow_le {b p q : Int} (b0 : 0 ≤ b) (b1 : b ≤ 127) (hp : 0 ≤ p) (hq : p ≤ q) : 0 ≤ b * p ∧ b * p ≤ 127 * q := by
  refine ⟨Int.mul_nonneg b0 hp, ?_⟩
  exact Int.le_trans (Int.mul_le_mul_of_nonneg_right b1 hp) (by omega)
theorem impl_ReadVar_run (s : ByteArray) : ∀ (d k : Nat) (i n : Int), 0 ≤ i → i + d = 7 → 0 ≤ n → n < 128 ^ i.toNat → 2 * d + 2 < k →
    impl_ReadVar.l0 k s n i = some (rv ((bytesOf s).drop i.toNat) i.toNat n) := by
  intro d
  induction d with
  | zero =>
    intro k i n h0 h1 n0 n1 hk
    obtain ⟨k, rfl⟩ : ∃ m, k = m + 2 := ⟨k - 2, by omega⟩
    simp only [impl_ReadVar.l0]
    rw [if_neg (by omega)]
    simp only [impl_ReadVar.j1]
    cases (bytesOf s).drop i.toNat with
    | nil => rfl
    | cons b t => rw [rv, if_neg (show ¬ i.toNat < 7 by omega)]; rfl
  | succ d ih =>
    intro k i n h0 h1 n0 n1 hk
    obtain ⟨k, rfl⟩ : ∃ m, k = m + 2 := ⟨k - 2, by omega⟩
    simp only [impl_ReadVar.l0]
    rw [if_pos (by omega)]
    simp only [impl_ReadVar.j1, decide_eq_true_eq]
    by_cases hs : i < (s.size : Int)
    · obtain ⟨c0, c1⟩ := bt_range s i
      have hp : (0 : Int) < 128 ^ i.toNat := Int.pow_pos (by omega)
      have hq : (128 : Int) ^ i.toNat ≤ 4398046511104 := by
        have h : i = 0 ∨ i = 1 ∨ i = 2 ∨ i = 3 ∨ i = 4 ∨ i = 5 ∨ i = 6 := by omega
        rcases h with rfl | rfl | rfl | rfl | rfl | rfl | rfl <;> decide
      obtain ⟨m0, m1⟩ := mul_pow_le (b := bt s i % 128) (by omega) (by omega) (Int.le_of_lt hp) (Int.le_refl _)
      rw [if_pos hs, if_pos h0, if_pos hs, w64 (n := 7 * i) (by omega) (by omega), if_pos (by omega), tmod_nn c0, w64 (n := bt s i % 128) (by omega) (by omega), shl7 (by omega) (by omega) h0 (by omega), w64 (n := n + _) (by omega) (by omega), w64 (n := i + 1) (by omega) (by omega), bt_drop h0 hs, rv, if_pos (show i.toNat < 7 by omega)]
      by_cases hhi : bt s i ≥ 128
      · rw [if_pos hhi, if_pos hhi, ih _ _ _ (by omega) (by omega) (by omega) (by rw [show (i + 1).toNat = i.toNat + 1 by omega, pow128i]; omega) (by omega), show (i + 1).toNat = i.toNat + 1 by omega]
      · rw [if_neg hhi, if_neg hhi]
        have e1 : i + 1 = ((i.toNat + 1 : Nat) : Int) := by omega
        have e2 : i + 1 = ((i.toNat : Nat) : Int) + 1 := by omega
        by_cases hz : bt s i = 0
        · rw [if_pos hz]
          by_cases hi : i > 0
          · rw [if_pos hi, if_pos ⟨hz, by omega⟩]
          · rw [if_neg hi, if_neg (by omega), e2]
        · rw [if_neg hz, if_neg (by omega), e2]
    · rw [if_neg hs, List.drop_of_length_le (by rw [bytesOf_length]; omega)]; rfl

theorem impl_ReadVar_f (s : ByteArray) (k : Nat) (hk : 20 < k) : impl_ReadVar.f k s = some (rv (bytesOf s) 0 0) := by
  unfold impl_ReadVar.f
  exact impl_ReadVar_run s 7 k 0 0 (by omega) (by omega) (by omega) (by decide) (by omega)

/-! What reading a number comes to, at a place of a text -/
theorem rv_bound : ∀ (l : List Int) (i : Nat) (n : Int), Byt l → 0 ≤ n → n < 128 ^ i → i ≤ 7 → 0 ≤ (rv l i n).1 ∧ (rv l i n).1 < 562949953421312 ∧ 0 ≤ (rv l i n).2 ∧ (rv l i n).2 ≤ (i : Int) + l.length ∧ (rv l i n).2 ≤ 7
  | [], i, n, _, _, _, _ => by simp [rv]
  | b :: t, i, n, hb, h0, h1, hi => by
    obtain ⟨⟨b0, b1⟩, ht⟩ := byt_cons.1 hb
    unfold rv
    by_cases h7 : i < 7
    · rw [if_pos h7]
      have hp : (0 : Int) < 128 ^ i := Int.pow_pos (by omega)
      have hm0 : 0 ≤ b % 128 * 128 ^ i := Int.mul_nonneg (by omega) (by omega)
      have hm1 : b % 128 * 128 ^ i ≤ 127 * 128 ^ i := Int.mul_le_mul_of_nonneg_right (by omega) (by omega)
      have hs : (128 : Int) ^ (i + 1) = 128 ^ i * 128 := Int.pow_succ 128 i
      have hp7 : (128 : Int) ^ (i + 1) ≤ 562949953421312 := by
        have : i = 0 ∨ i = 1 ∨ i = 2 ∨ i = 3 ∨ i = 4 ∨ i = 5 ∨ i = 6 := by omega
        rcases this with rfl | rfl | rfl | rfl | rfl | rfl | rfl <;> decide
      generalize b % 128 * 128 ^ i = X at *
      split
      · have := rv_bound t (i + 1) (n + X) ht (by omega) (by omega) (by omega)
        rw [List.length_cons]
        omega
      · split
        · simp; omega
        · simp only [List.length_cons]; omega
    · rw [if_neg h7]; simp; omega

def rvx (s : ByteArray) (o : Int) : Int × Int := rv (bytesOf (s.extract o.toNat s.size)) 0 0
theorem rvx_bound (s : ByteArray) (o : Int) (h0 : 0 ≤ o) (h1 : o ≤ (s.size : Int)) : 0 ≤ (rvx s o).1 ∧ (rvx s o).1 < 562949953421312 ∧ 0 ≤ (rvx s o).2 ∧ o + (rvx s o).2 ≤ (s.size : Int) ∧ (rvx s o).2 ≤ 7 := by
  have := rv_bound (bytesOf (s.extract o.toNat s.size)) 0 0 (byt_bytesOf _) (by omega) (by simp) (by omega)
  have e : (bytesOf (s.extract o.toNat s.size)).length = s.size - o.toNat := by rw [bytesOf_length, ByteArray.size_extract]; omega
  rw [e] at this
  unfold rvx
  omega
theorem extract_all (s : ByteArray) : s.extract 0 s.size = s := bytesOf_inj (by rw [bytesOf_extract, List.drop_zero, List.take_of_length_le (by rw [bytesOf_length]; omega)])
theorem extract_rest (s : ByteArray) (a b : Nat) (ha : a ≤ s.size) : (s.extract a s.size).extract b (s.extract a s.size).size = s.extract (a + b) s.size := bytesOf_inj (by
  have e : (s.extract a s.size).size = s.size - a := by rw [ByteArray.size_extract]; omega
  rw [bytesOf_extract, bytesOf_extract, bytesOf_extract, e]
  have e2 : (bytesOf s).take s.size = bytesOf s := List.take_of_length_le (by rw [bytesOf_length]; omega)
  rw [e2, List.take_of_length_le (by rw [List.length_drop, bytesOf_length]; omega), List.drop_drop])

/-! numbers read one behind the other -/
theorem rv_canon : ∀ (l : List Int) (i : Nat) (n : Int), Byt l → (rv l i n).2 ≠ 0 → ∃ (a : List Int) (c : Int), l.take ((rv l i n).2 - i).toNat = a ++ [c] ∧ (∀ x ∈ a, x ≥ 128) ∧ c < 128 ∧ ((a = [] ∧ i = 0) ∨ c ≠ 0) ∧ (rv l i n).1 = n + (le7 (a ++ [c]) : Int) * 128 ^ i ∧ (i : Int) < (rv l i n).2
  | [], i, n, _, h => by exact absurd rfl h
  | b :: t, i, n, hb, h => by
    obtain ⟨⟨b0, b1⟩, ht⟩ := byt_cons.1 hb
    by_cases h7 : i < 7
    · by_cases h8 : b ≥ 128
      · have e : rv (b :: t) i n = rv t (i + 1) (n + b % 128 * 128 ^ i) := by rw [rv, if_pos h7, if_pos h8]
        rw [e] at h ⊢
        obtain ⟨a, c, h1, h2, h3, h4, h5, h6⟩ := rv_canon t (i + 1) _ ht h
        refine ⟨b :: a, c, ?_, ?_, h3, .inr ?_, ?_, by omega⟩
        · rw [show ((rv t (i + 1) (n + b % 128 * 128 ^ i)).2 - (i : Int)).toNat = ((rv t (i + 1) (n + b % 128 * 128 ^ i)).2 - ((i + 1 : Nat) : Int)).toNat + 1 by omega, List.take_succ_cons, h1]; rfl
        · intro x hx
          rcases List.mem_cons.1 hx with rfl | hx
          · exact h8
          · exact h2 x hx
        · rcases h4 with ⟨_, h4⟩ | h4
          · omega
          · exact h4
        · rw [h5, List.cons_append, le7]
          have hs : (128 : Int) ^ (i + 1) = 128 ^ i * 128 := Int.pow_succ 128 i
          rw [hs, Int.natCast_add, Int.natCast_mul, Int.add_mul, Int.toNat_of_nonneg (by omega), Int.add_assoc]
          congr 2
          rw [Int.mul_comm (128 ^ i) 128, ← Int.mul_assoc, Int.mul_comm ((le7 (a ++ [c]) : Int)) 128]; rfl
      · by_cases hz : b = 0 ∧ i > 0
        · have e : rv (b :: t) i n = (0, 0) := by rw [rv, if_pos h7, if_neg h8, if_pos hz]
          rw [e] at h; exact absurd rfl h
        · have e : rv (b :: t) i n = (n + b % 128 * 128 ^ i, (i : Int) + 1) := by rw [rv, if_pos h7, if_neg h8, if_neg hz]
          rw [e]
          refine ⟨[], b, ?_, by simp, by omega, ?_, ?_, by show (i : Int) < (i : Int) + 1; omega⟩
          · rw [show (((n + b % 128 * 128 ^ i, (i : Int) + 1) : Int × Int).2 - (i : Int)).toNat = 1 by show ((i : Int) + 1 - (i : Int)).toNat = 1; omega]; simp
          · by_cases hi : i = 0
            · exact .inl ⟨rfl, hi⟩
            · exact .inr (fun hb => hz ⟨hb, by omega⟩)
          · simp only [List.nil_append, le7, Nat.mul_zero, Nat.add_zero]
            rw [Int.toNat_of_nonneg (by omega)]
    · have e : rv (b :: t) i n = (0, 0) := by rw [rv, if_neg h7]
      rw [e] at h; exact absurd rfl h
theorem rvx_canon (s : ByteArray) (o : Int) (h0 : 0 ≤ o) (h1 : o ≤ (s.size : Int)) (h : (rvx s o).2 ≠ 0) : ((bytesOf s).drop o.toNat).take (rvx s o).2.toNat = varM (rvx s o).1 := by
  have B := rvx_bound s o h0 h1
  have e : bytesOf (s.extract o.toNat s.size) = (bytesOf s).drop o.toNat := by
    rw [bytesOf_extract, List.take_of_length_le (by rw [bytesOf_length]; omega)]
  unfold rvx at B h ⊢
  rw [e] at B h ⊢
  obtain ⟨a, c, g1, g2, g3, g4, g5, g6⟩ := rv_canon ((bytesOf s).drop o.toNat) 0 0 (byt_drop (byt_bytesOf s) _) h
  have g7 : ((rv ((bytesOf s).drop o.toNat) 0 0).2 - ((0 : Nat) : Int)).toNat = (rv ((bytesOf s).drop o.toNat) 0 0).2.toNat := by omega
  rw [g7] at g1
  have g8 : (rv ((bytesOf s).drop o.toNat) 0 0).1 = (le7 (a ++ [c]) : Int) := by rw [g5]; simp
  rw [g1, g8]
  unfold varM
  rw [if_pos (by omega), Int.toNat_natCast]
  refine (varN_back a c ?_ g2 g3 ?_).symm
  · rw [← g1]; exact byt_take (byt_drop (byt_bytesOf s) _) _
  · rcases g4 with ⟨g4, _⟩ | g4
    · exact .inl g4
    · exact .inr g4
def zs : Nat → ByteArray → Int → Option (List Int × Int)
  | 0, _, o => some ([], o)
  | n + 1, s, o => if (rvx s o).2 = 0 then none else (zs n s (o + (rvx s o).2)).map fun r => ((rvx s o).1 :: r.1, r.2)
def catV : List Int → List Int
  | [] => []
  | v :: r => varM v ++ catV r
theorem zs_spec : ∀ (n : Nat) (s : ByteArray) (o : Int) (l : List Int) (k : Int), 0 ≤ o → o ≤ (s.size : Int) → zs n s o = some (l, k) →
    o ≤ k ∧ k ≤ (s.size : Int) ∧ l.length = n ∧ (∀ v ∈ l, 0 ≤ v ∧ v < 562949953421312) ∧ ((bytesOf s).drop o.toNat).take (k - o).toNat = catV l := by
  intro n
  induction n with
  | zero =>
    intro s o l k h0 h1 h
    simp only [zs, Option.some.injEq, Prod.mk.injEq] at h
    obtain ⟨rfl, rfl⟩ := h
    simp [catV]; omega
  | succ n ih =>
    intro s o l k h0 h1 h
    have B := rvx_bound s o h0 h1
    rw [zs] at h
    by_cases hz : (rvx s o).2 = 0
    · rw [if_pos hz] at h; cases h
    · rw [if_neg hz] at h
      have C := rvx_canon s o h0 h1 hz
      cases hr : zs n s (o + (rvx s o).2) with
      | none => rw [hr] at h; cases h
      | some r =>
        rw [hr] at h
        simp only [Option.map_some, Option.some.injEq, Prod.mk.injEq] at h
        obtain ⟨rfl, rfl⟩ := h
        obtain ⟨c1, c2, c3, c4, c5⟩ := ih s _ r.1 r.2 (by omega) (by omega) hr
        refine ⟨by omega, c2, by simp [c3], ?_, ?_⟩
        · intro v hv
          rcases List.mem_cons.1 hv with rfl | hv
          · exact ⟨B.1, B.2.1⟩
          · exact c4 v hv
        · rw [show (r.2 - o).toNat = (rvx s o).2.toNat + (r.2 - (o + (rvx s o).2)).toNat by omega, List.take_add, C, List.drop_drop, show o.toNat + (rvx s o).2.toNat = (o + (rvx s o).2).toNat by omega, c5]; rfl

theorem tl0 : (⟨#[]⟩ : ByteArray).toList = [] := by have := toList_nil (⟨#[]⟩ : ByteArray); simp
theorem toL0 {s : ByteArray} (h : s.toList = []) : s.size = 0 := by have := toList_nil s; rw [h] at this; simpa using this.symm
theorem rv_varN : ∀ (d n : Nat) (t : List Int) (i : Nat) (acc : Int), n < 128 ^ (d + 1) → i + d ≤ 6 → (i = 0 ∨ 0 < n) → rv (varN n ++ t) i acc = (acc + n * 128 ^ i, (i : Int) + (varN n).length) := by
  have base : ∀ (n : Nat) (t : List Int) (i : Nat) (acc : Int), n < 128 → i ≤ 6 → (i = 0 ∨ 0 < n) → rv (varN n ++ t) i acc = (acc + n * 128 ^ i, (i : Int) + (varN n).length) := by
    intro n t i acc h hi h0
    rw [varN_lt h, List.singleton_append, rv, if_pos (by omega), if_neg (by omega), if_neg (by omega), show (n : Int) % 128 = n by omega]; rfl
  intro d
  induction d with
  | zero => intro n t i acc h hi h0; exact base n t i acc (by omega) (by omega) h0
  | succ d ih =>
    intro n t i acc h hi h0
    by_cases hn : n < 128
    · exact base n t i acc hn (by omega) h0
    · rw [pow128] at h
      rw [varN_ge hn, List.cons_append, rv, if_pos (by omega), if_pos (by omega), ih (n / 128) t (i + 1) _ (by omega) (by omega) (.inr (by omega))]
      have hp : (128 : Int) ^ (i + 1) = 128 ^ i * 128 := Int.pow_succ 128 i
      have e1 : ((n % 128 + 128 : Nat) : Int) % 128 = ((n % 128 : Nat) : Int) := by omega
      have e2 : (n : Int) * 128 ^ i = ((n % 128 : Nat) : Int) * 128 ^ i + ((n / 128 : Nat) : Int) * 128 ^ (i + 1) := by
        rw [hp, Int.mul_comm (128 ^ i) 128, ← Int.mul_assoc, ← Int.add_mul]
        congr 1; omega
      rw [e1, e2]
      simp only [List.length_cons, Prod.mk.injEq]
      constructor
      · omega
      · omega
theorem rv_varM {n : Int} (h0 : 0 ≤ n) (h1 : n ≤ 562949953421311) (t : List Int) : rv (varM n ++ t) 0 0 = (n, ((varM n).length : Int)) := by
  unfold varM
  rw [if_pos ⟨h0, h1⟩, rv_varN 6 n.toNat t 0 0 (by omega) (by omega) (.inl rfl)]
  simp; omega

/-! ReadValues -/
def zokM (l : List Int) : Bool := l.all fun v => decide (v ≤ 281474976710656)
def sums : Int → List Int → List Int
  | _, [] => []
  | last, v :: r => (last + (unzM v).1) :: sums (last + (unzM v).1) r
theorem sums_length : ∀ (l : List Int) (last : Int), (sums last l).length = l.length
  | [], _ => rfl
  | v :: r, last => by simp [sums, sums_length r]
theorem unzM_bound (v : Int) : -140737488355328 ≤ (unzM v).1 ∧ (unzM v).1 ≤ 140737488355328 := by
  unfold unzM; split
  · split <;> simp <;> omega
  · simp
theorem unzM_ok {v : Int} (h0 : 0 ≤ v) : (unzM v).2 = decide (v ≤ 281474976710656) := by
  unfold unzM
  by_cases h : v ≤ 281474976710656
  · rw [if_pos ⟨h0, h⟩, decide_eq_true h]; split <;> rfl
  · rw [if_neg (fun g => h g.2), decide_eq_false h]
theorem unzM_no {v : Int} (h : ¬ v ≤ 281474976710656) : (unzM v).1 = 0 := by
  unfold unzM; rw [if_neg (fun g => h g.2)]
theorem zig_unz {v : Int} (h0 : 0 ≤ v) (h : v ≤ 281474976710656) : zigM (unzM v).1 = v := by
  unfold unzM
  rw [if_pos ⟨h0, h⟩]
  by_cases h3 : v % 2 = 1
  · rw [if_pos h3]; simp only []; unfold zigM; rw [if_pos (by omega), if_pos (by omega)]; omega
  · rw [if_neg h3]; simp only []; unfold zigM; rw [if_pos (by omega), if_neg (by omega)]; omega
theorem varM_zero : varM 0 = [0] := by
  unfold varM; rw [if_pos (by omega)]; exact varN_lt (by omega)
theorem varM_big {v : Int} (h0 : 128 ≤ v) (h1 : v < 562949953421312) : ∃ x t, varM v = x :: t ∧ x ≥ 128 := by
  unfold varM; rw [if_pos (by omega), varN_ge (by omega)]
  exact ⟨_, _, rfl, by omega⟩
theorem varM_ne {v : Int} (h0 : 0 ≤ v) (h1 : v < 562949953421312) : varM v ≠ [] := by
  unfold varM; rw [if_pos (by omega)]; exact varN_ne _
theorem valM_sums : ∀ (l : List Int) (last : Int), (∀ v ∈ l, 0 ≤ v ∧ v < 562949953421312) → (valM last (sums last l) = catV l ↔ zokM l = true)
  | [], last, _ => by simp [sums, valM, catV, zokM]
  | v :: r, last, h => by
    have hv := h v (List.mem_cons_self)
    have ih := valM_sums r (last + (unzM v).1) (fun x hx => h x (List.mem_cons_of_mem _ hx))
    rw [sums, valM, catV, show last + (unzM v).1 - last = (unzM v).1 by omega]
    have e : zokM (v :: r) = (decide (v ≤ 281474976710656) && zokM r) := rfl
    rw [e]
    by_cases hok : v ≤ 281474976710656
    · rw [zig_unz hv.1 hok, List.append_cancel_left_eq, decide_eq_true hok, Bool.true_and]; exact ih
    · rw [decide_eq_false hok, Bool.false_and, unzM_no hok, show zigM 0 = 0 by decide, varM_zero]
      obtain ⟨x, t, g1, g2⟩ := varM_big (v := v) (by omega) hv.2
      rw [g1]
      constructor
      · intro h; simp at h; omega
      · intro h; cases h
def readValM (s : ByteArray) (n : Int) : List Int × Int :=
  if 1 ≤ n ∧ n ≤ 60 then (zs n.toNat s 0).elim ([], 0) fun r => if zokM r.1 = true ∧ inV (sums 0 r.1) = true then (sums 0 r.1, r.2) else ([], 0) else ([], 0)
theorem text_eq {l : List Int} (hl : Byt l) (t : ByteArray) : (strOfNums l).toList = t.toList ↔ l = bytesOf t := by
  rw [toList_eq_iff]
  constructor
  · rintro rfl; rw [bytesOf_strOfNums hl]
  · rintro rfl; rw [strOfNums_bytesOf]
theorem showValM_byt (l : List Int) : Byt (showValM l) := by
  unfold showValM; split
  · exact valM_byt _ _
  · exact byt_nil
theorem showVal_sums (l : List Int) (last : Int) (hl : 1 ≤ (l.length : Int) ∧ (l.length : Int) ≤ 60) (hv : inV (sums last l) = true) : showValM (sums last l) = valM 0 (sums last l) := by
  unfold showValM; rw [sums_length, if_pos ⟨hl.1, hl.2, hv⟩]

/-! ReadTimes -/
def stepsI : Int → Int → List Int → List Int
  | _, _, [] => []
  | last, step, v :: r => (last + (step + (unzM v).1)) :: stepsI (last + (step + (unzM v).1)) (step + (unzM v).1) r
theorem stepsI_length : ∀ (l : List Int) (a b : Int), (stepsI a b l).length = l.length
  | [], _, _ => rfl
  | v :: r, a, b => by simp [stepsI, stepsI_length r]
def timesR : List Int → List Int
  | [] => []
  | [v] => [v]
  | v :: w :: r => v :: (v + w) :: stepsI (v + w) w r
theorem timesR_length : ∀ (l : List Int), (timesR l).length = l.length
  | [] => rfl
  | [v] => rfl
  | v :: w :: r => by simp [timesR, stepsI_length]
def zok2 : List Int → Bool
  | _ :: _ :: r => zokM r
  | _ => true
def inT (l : List Int) : Bool := l.all fun v => decide (0 ≤ v ∧ v ≤ 1099511627776)
theorem risM_inT : ∀ (l : List Int) (p : Int), risM p l = true → inT l = true
  | [], _, _ => rfl
  | t :: r, p, h => by
    simp only [risM, Bool.and_eq_true, decide_eq_true_eq] at h
    simp only [inT, List.all_cons, Bool.and_eq_true, decide_eq_true_eq]
    exact ⟨h.1.2, risM_inT r t h.2⟩
theorem tim2_steps : ∀ (l : List Int) (p q : Int), (∀ v ∈ l, 0 ≤ v ∧ v < 562949953421312) → (tim2 p q (stepsI q (q - p) l) = catV l ↔ zokM l = true)
  | [], p, q, _ => by simp [stepsI, tim2, catV, zokM]
  | v :: r, p, q, h => by
    have hv := h v (List.mem_cons_self)
    have ih := tim2_steps r q (q + (q - p + (unzM v).1)) (fun x hx => h x (List.mem_cons_of_mem _ hx))
    rw [show q + (q - p + (unzM v).1) - q = q - p + (unzM v).1 by omega] at ih
    rw [stepsI, tim2, catV, show q + (q - p + (unzM v).1) - q - (q - p) = (unzM v).1 by omega]
    have e : zokM (v :: r) = (decide (v ≤ 281474976710656) && zokM r) := rfl
    rw [e]
    by_cases hok : v ≤ 281474976710656
    · rw [zig_unz hv.1 hok, List.append_cancel_left_eq, decide_eq_true hok, Bool.true_and]; exact ih
    · rw [decide_eq_false hok, Bool.false_and, unzM_no hok, show zigM 0 = 0 by decide, varM_zero]
      obtain ⟨x, t, g1, g2⟩ := varM_big (v := v) (by omega) hv.2
      rw [g1]
      constructor
      · intro h; simp at h; omega
      · intro h; cases h
theorem timM_times : ∀ (l : List Int), (∀ v ∈ l, 0 ≤ v ∧ v < 562949953421312) → (timM (timesR l) = catV l ↔ zok2 l = true)
  | [], _ => by simp [timesR, timM, catV, zok2]
  | [v], _ => by simp [timesR, timM, tim1, catV, zok2]
  | v :: w :: r, h => by
    have e := tim2_steps r v (v + w) (fun x hx => h x (List.mem_cons_of_mem _ (List.mem_cons_of_mem _ hx)))
    rw [show v + w - v = w by omega] at e
    simp only [timesR, timM, tim1, catV]
    rw [show v + w - v = w by omega, List.append_cancel_left_eq, List.append_cancel_left_eq]
    exact e
theorem showTimM_byt (l : List Int) : Byt (showTimM l) := by
  unfold showTimM; split
  · exact timM_byt _
  · exact byt_nil
theorem showTim_times (l : List Int) (hl : 1 ≤ (l.length : Int) ∧ (l.length : Int) ≤ 60) (hr : riseM (timesR l) = true) : showTimM (timesR l) = timM (timesR l) := by
  unfold showTimM; rw [timesR_length, if_pos ⟨hl.1, hl.2, hr⟩]
theorem showTim_no (l : List Int) (hr : ¬ riseM l = true) : showTimM l = [] := by
  unfold showTimM; rw [if_neg (fun h => hr h.2.2)]
def readTimM (s : ByteArray) (n : Int) : List Int × Int :=
  if 1 ≤ n ∧ n ≤ 60 then (zs n.toNat s 0).elim ([], 0) fun r => if zok2 r.1 = true ∧ riseM (timesR r.1) = true then (timesR r.1, r.2) else ([], 0) else ([], 0)

/-! the reader -/
theorem impl_num_no (s : ByteArray) (k : Nat) (hk : 301 ≤ k) (hs : s.size ≤ 140737488351232) : impl_reader_num.f k s false = some (0, s, false) := by
  unfold impl_reader_num.f
  rw [impl_ReadVar_f _ _ (by omega)]
  simp
theorem impl_num_yes (s : ByteArray) (o : Int) (k : Nat) (hk : 301 ≤ k) (hs : s.size ≤ 140737488351232) (h0 : 0 ≤ o) (h1 : o ≤ (s.size : Int)) : impl_reader_num.f k (s.extract o.toNat s.size) true =
    some (if (rvx s o).2 = 0 then (0, s.extract o.toNat s.size, false) else ((rvx s o).1, s.extract (o + (rvx s o).2).toNat s.size, true)) := by
  have e : (s.extract o.toNat s.size).size = s.size - o.toNat := by rw [ByteArray.size_extract]; omega
  unfold impl_reader_num.f
  rw [impl_ReadVar_f _ _ (by omega)]
  simp only [Option.bind_some]
  rw [if_pos trivial]
  have B := rvx_bound s o h0 h1
  rw [show rv (bytesOf (s.extract o.toNat s.size)) 0 0 = rvx s o from rfl]
  generalize rvx s o = p at *
  by_cases h : p.2 = 0
  · rw [if_neg (by omega), if_pos h]; simp; omega
  · rw [if_pos (by omega), if_pos (by omega), if_pos (by rw [e]; omega), if_neg h, extract_rest _ _ _ (by omega), show (o + p.2).toNat = o.toNat + p.2.toNat by omega]
    simp; omega
theorem impl_zag_no (s : ByteArray) (k : Nat) (hk : 301 ≤ k) (hs : s.size ≤ 140737488351232) : impl_reader_zag.f k s false = some (0, s, false) := by
  unfold impl_reader_zag.f
  rw [impl_num_no s k hk hs]
  simp only [Option.bind_some]
  rw [impl_UnZig_run]
  rfl
theorem impl_zag_yes (s : ByteArray) (o : Int) (k : Nat) (hk : 301 ≤ k) (hs : s.size ≤ 140737488351232) (h0 : 0 ≤ o) (h1 : o ≤ (s.size : Int)) : impl_reader_zag.f k (s.extract o.toNat s.size) true =
    some (if (rvx s o).2 = 0 then (0, s.extract o.toNat s.size, false) else ((unzM (rvx s o).1).1, s.extract (o + (rvx s o).2).toNat s.size, decide ((rvx s o).1 ≤ 281474976710656))) := by
  unfold impl_reader_zag.f
  rw [impl_num_yes s o k hk hs h0 h1]
  simp only [Option.bind_some]
  have B := rvx_bound s o h0 h1
  by_cases h : (rvx s o).2 = 0
  · rw [if_pos h, if_pos h, impl_UnZig_run]; rfl
  · rw [if_neg h, if_neg h, impl_UnZig_run]
    simp only [Option.bind_some]
    rw [if_pos trivial, unzM_ok B.1]
theorem impl_began_run (s t : ByteArray) : impl_began.f s t = some ((t.size : Int), if bytesOf t = [] then false else decide ((bytesOf s).take t.size = bytesOf t)) := by
  unfold impl_began.f
  have e : t.toList = ([] : List UInt8) ↔ bytesOf t = [] := by
    rw [ByteArray.toList_eq]; unfold bytesOf; simp
  by_cases h : bytesOf t = []
  · rw [if_pos (e.2 h), if_pos h]
  · rw [if_neg (fun g => h (e.1 g)), if_neg h]
    unfold strings_HasPrefix.f stringslite_HasPrefix.f
    by_cases hl : (s.size : Int) ≥ (t.size : Int)
    · rw [if_pos hl, if_pos (by omega), if_pos (by omega)]
      simp only [Option.bind_some]
      congr 2
      rw [show ((t.size : Int)).toNat = t.size by omega, Bool.eq_iff_iff, beq_iff_eq, decide_eq_true_eq, toList_eq_iff]
      have e2 : bytesOf (s.extract 0 t.size) = (bytesOf s).take t.size := by rw [bytesOf_extract, List.drop_zero]
      rw [← e2]
      exact ⟨fun h => by rw [h], bytesOf_inj⟩
    · rw [if_neg hl]
      simp only [Option.bind_some]
      congr 2
      rw [eq_comm, decide_eq_false_iff_not]
      intro h2
      have := congrArg List.length h2
      rw [List.length_take, bytesOf_length, bytesOf_length] at this
      omega

def finV (s : ByteArray) (l : List Int) : List Int × Int :=
  if showValM l = [] then ([], 0) else if (bytesOf s).take (showValM l).length = showValM l then (l, ((showValM l).length : Int)) else ([], 0)
theorem impl_ReadValues_no : ∀ (d k : Nat) (s : ByteArray) (out : List Int) (last n i : Int) (st : ByteArray), 0 ≤ i → i + d = n → n ≤ 60 → out.length ≤ i → st.size ≤ 140737488351232 → d + 1048620 < k →
    impl_ReadValues.l0 k s out last n i st false = some ([], 0) := by
  intro d
  induction d with
  | zero =>
    intro k s out last n i st i0 i1 hn ho hs hk
    obtain ⟨q, rfl⟩ : ∃ m, k = m + 1 := ⟨k - 1, by omega⟩
    simp only [impl_ReadValues.l0]
    rw [if_neg (by omega), impl_ShowValues_f out (by omega) q (by omega)]
    simp only [Option.bind_some]
    rw [impl_began_run]
    simp
  | succ d ih =>
    intro k s out last n i st i0 i1 hn ho hs hk
    obtain ⟨q, rfl⟩ : ∃ m, k = m + 1 := ⟨k - 1, by omega⟩
    simp only [impl_ReadValues.l0]
    rw [if_pos (by omega), impl_zag_no st q (by omega) hs]
    simp only [Option.bind_some]
    rw [if_pos (by omega), w64 (n := i + 1) (by omega) (by omega)]
    exact ih q s _ _ n (i + 1) st (by omega) (by omega) hn (by simp; omega) hs (by omega)
theorem impl_ReadValues_yes : ∀ (d k : Nat) (s : ByteArray) (out : List Int) (last n o i : Int), 0 ≤ i → i + d = n → n ≤ 60 → out.length ≤ i → s.size ≤ 140737488351232 → 0 ≤ o → o ≤ (s.size : Int) → -(i * 140737488355328) ≤ last → last ≤ i * 140737488355328 → d + 1048620 < k →
    impl_ReadValues.l0 k s out last n i (s.extract o.toNat s.size) true = some ((zs d s o).elim ([], 0) fun r => if zokM r.1 = true then finV s (out ++ sums last r.1) else ([], 0)) := by
  intro d
  induction d with
  | zero =>
    intro k s out last n o i i0 i1 hn ho hs o0 o1 l0 l1 hk
    obtain ⟨q, rfl⟩ : ∃ m, k = m + 1 := ⟨k - 1, by omega⟩
    simp only [impl_ReadValues.l0]
    rw [if_neg (by omega), impl_ShowValues_f out (by omega) q (by omega)]
    simp only [Option.bind_some]
    rw [impl_began_run, bytesOf_strOfNums (showValM_byt _), size_strOfNums]
    simp only [Option.bind_some, zs, Option.elim_some, sums, List.append_nil]
    rw [if_pos trivial, if_pos (show zokM [] = true from rfl)]
    unfold finV
    by_cases h : showValM out = []
    · rw [if_pos h, if_pos h, if_neg (by decide)]
    · rw [if_neg h, if_neg h]
      simp only [decide_eq_true_eq]
      split <;> rfl
  | succ d ih =>
    intro k s out last n o i i0 i1 hn ho hs o0 o1 l0 l1 hk
    obtain ⟨q, rfl⟩ : ∃ m, k = m + 1 := ⟨k - 1, by omega⟩
    have B := rvx_bound s o o0 o1
    have U := unzM_bound (rvx s o).1
    have e4 : ∀ a, (s.extract a s.size).size ≤ 140737488351232 := fun a => by rw [ByteArray.size_extract]; omega
    simp only [impl_ReadValues.l0]
    rw [if_pos (by omega), impl_zag_yes s o q (by omega) hs o0 o1]
    simp only [Option.bind_some, zs]
    by_cases hz : (rvx s o).2 = 0
    · rw [if_pos hz, if_pos hz]
      simp only []
      rw [if_pos (by omega), w64 (n := i + 1) (by omega) (by omega)]
      exact impl_ReadValues_no d q s _ _ n (i + 1) _ (by omega) (by omega) hn (by simp; omega) (e4 _) (by omega)
    · rw [if_neg hz, if_neg hz]
      simp only []
      rw [if_pos (by omega), w64 (n := i + 1) (by omega) (by omega), w64 (n := last + (unzM (rvx s o).1).1) (by omega) (by omega)]
      by_cases hv : (rvx s o).1 ≤ 281474976710656
      · rw [decide_eq_true hv, ih q s _ _ n (o + (rvx s o).2) (i + 1) (by omega) (by omega) hn (by simp; omega) hs (by omega) (by omega) (by omega) (by omega) (by omega)]
        cases zs d s (o + (rvx s o).2) with
        | none => rfl
        | some r =>
          simp only [Option.elim_some, Option.map_some, sums, List.append_assoc, List.singleton_append]
          have e : zokM ((rvx s o).1 :: r.1) = (decide ((rvx s o).1 ≤ 281474976710656) && zokM r.1) := rfl
          rw [e, decide_eq_true hv, Bool.true_and]
      · rw [decide_eq_false hv, impl_ReadValues_no d q s _ _ n (i + 1) _ (by omega) (by omega) hn (by simp; omega) (e4 _) (by omega)]
        cases zs d s (o + (rvx s o).2) with
        | none => rfl
        | some r =>
          simp only [Option.elim_some, Option.map_some]
          have e : zokM ((rvx s o).1 :: r.1) = (decide ((rvx s o).1 ≤ 281474976710656) && zokM r.1) := rfl
          rw [e, decide_eq_false hv, Bool.false_and, if_neg (by decide)]
theorem catV_ne {l : List Int} (h : 1 ≤ (l.length : Int)) (hv : ∀ v ∈ l, 0 ≤ v ∧ v < 562949953421312) : catV l ≠ [] := by
  cases l with
  | nil => simp at h
  | cons v r =>
    have := hv v (List.mem_cons_self)
    intro h2
    rw [catV] at h2
    exact varM_ne this.1 this.2 (List.append_eq_nil_iff.1 h2).1
theorem impl_ReadValues_f (s : ByteArray) (n : Int) (hs : s.size ≤ 140737488351232) (k : Nat) (hk : 1048700 ≤ k) : impl_ReadValues.f k s n = some (readValM s n) := by
  unfold impl_ReadValues.f readValM
  rw [impl_from_run]
  simp only [Option.bind_some, decide_eq_true_eq]
  by_cases hn : 1 ≤ n ∧ n ≤ 60
  · rw [if_pos hn, if_pos hn]
    have f := impl_ReadValues_yes n.toNat k s [] 0 n 0 0 (by omega) (by omega) hn.2 (by simp) hs (by omega) (by omega) (by omega) (by omega) (by omega)
    rw [show s.extract (0 : Int).toNat s.size = s from extract_all s] at f
    refine Eq.trans f ?_
    cases hz : zs n.toNat s 0 with
    | none => rfl
    | some r =>
      obtain ⟨c1, c2, c3, c4, c5⟩ := zs_spec n.toNat s 0 r.1 r.2 (by omega) (by omega) hz
      have c6 : (bytesOf s).take r.2.toNat = catV r.1 := by simpa using c5
      simp only [Option.elim_some, List.nil_append]
      by_cases ho : zokM r.1 = true
      · rw [if_pos ho]
        unfold finV
        by_cases hv : inV (sums 0 r.1) = true
        · have g := (showVal_sums r.1 0 (by omega) hv).trans ((valM_sums r.1 0 c4).2 ho)
          have c7 : (catV r.1).length = r.2.toNat := by rw [← c6, List.length_take, bytesOf_length]; omega
          simp only [g]
          rw [if_neg (catV_ne (by omega) c4), c7, if_pos c6, if_pos (show zokM r.1 = true ∧ inV (sums 0 r.1) = true from ⟨ho, hv⟩), show ((r.2.toNat : Nat) : Int) = r.2 by omega]
        · have g : showValM (sums 0 r.1) = [] := by unfold showValM; rw [if_neg (fun h => hv h.2.2)]
          rw [if_pos g, if_neg (show ¬ (zokM r.1 = true ∧ inV (sums 0 r.1) = true) from fun h => hv h.2)]
      · rw [if_neg ho, if_neg (fun h => ho h.1)]
  · rw [if_neg hn, if_neg hn]

def finT (s : ByteArray) (l : List Int) : List Int × Int :=
  if showTimM l = [] then ([], 0) else if (bytesOf s).take (showTimM l).length = showTimM l then (l, ((showTimM l).length : Int)) else ([], 0)
theorem impl_RT_end (k : Nat) (s : ByteArray) (out : List Int) (a b n : Int) (st : ByteArray) (ho : out.length ≤ 1048576) (hk : 2097200 < k) : impl_ReadTimes.l0 (k + 1) s out a b n n st true = some (finT s out) := by
  simp only [impl_ReadTimes.l0]
  rw [if_neg (by omega), impl_ShowTimes_f out ho k hk]
  simp only [Option.bind_some]
  rw [impl_began_run, bytesOf_strOfNums (showTimM_byt _), size_strOfNums]
  simp only [Option.bind_some]
  rw [if_pos trivial]
  unfold finT
  by_cases h : showTimM out = []
  · rw [if_pos h, if_pos h, if_neg (by decide)]
  · rw [if_neg h, if_neg h]
    simp only [decide_eq_true_eq]
    split <;> rfl
theorem impl_RT_no : ∀ (d k : Nat) (s : ByteArray) (out : List Int) (a b n i : Int) (st : ByteArray), 0 ≤ i → i + d = n → n ≤ 60 → out.length ≤ i → st.size ≤ 140737488351232 → d + 2097210 < k →
    impl_ReadTimes.l0 k s out a b n i st false = some ([], 0) := by
  intro d
  induction d with
  | zero =>
    intro k s out a b n i st i0 i1 hn ho hs hk
    obtain ⟨q, rfl⟩ : ∃ m, k = m + 1 := ⟨k - 1, by omega⟩
    simp only [impl_ReadTimes.l0]
    rw [if_neg (by omega), impl_ShowTimes_f out (by omega) q (by omega)]
    simp only [Option.bind_some]
    rw [impl_began_run]
    simp
  | succ d ih =>
    intro k s out a b n i st i0 i1 hn ho hs hk
    obtain ⟨q, rfl⟩ : ∃ m, k = m + 1 := ⟨k - 1, by omega⟩
    simp only [impl_ReadTimes.l0]
    rw [if_pos (by omega)]
    by_cases h2 : i < 2
    · rw [if_pos h2, impl_num_no st q (by omega) hs]
      simp only [Option.bind_some]
      rw [if_pos (by omega), w64 (n := i + 1) (by omega) (by omega)]
      exact ih q s _ _ _ n (i + 1) st (by omega) (by omega) hn (by simp; omega) hs (by omega)
    · rw [if_neg h2, impl_zag_no st q (by omega) hs]
      simp only [Option.bind_some]
      rw [if_pos (by omega), w64 (n := i + 1) (by omega) (by omega)]
      exact ih q s _ _ _ n (i + 1) st (by omega) (by omega) hn (by simp; omega) hs (by omega)
theorem impl_RT_yes : ∀ (d k : Nat) (s : ByteArray) (out : List Int) (step last n o i : Int), 2 ≤ i → i + d = n → n ≤ 60 → out.length ≤ i → s.size ≤ 140737488351232 → 0 ≤ o → o ≤ (s.size : Int) → -(562949953421312 + i * 140737488355328) ≤ step → step ≤ 562949953421312 + i * 140737488355328 → -(i * 72057594037927936) ≤ last → last ≤ i * 72057594037927936 → d + 2097210 < k →
    impl_ReadTimes.l0 k s out step last n i (s.extract o.toNat s.size) true = some ((zs d s o).elim ([], 0) fun r => if zokM r.1 = true then finT s (out ++ stepsI last step r.1) else ([], 0)) := by
  intro d
  induction d with
  | zero =>
    intro k s out step last n o i i0 i1 hn ho hs o0 o1 t0 t1 l0 l1 hk
    obtain ⟨q, rfl⟩ : ∃ m, k = m + 1 := ⟨k - 1, by omega⟩
    have hi : i = n := by omega
    subst hi
    rw [impl_RT_end q s out step last i _ (by omega) (by omega)]
    simp only [zs, Option.elim_some, stepsI, List.append_nil]
    rw [if_pos (show zokM [] = true from rfl)]
  | succ d ih =>
    intro k s out step last n o i i0 i1 hn ho hs o0 o1 t0 t1 l0 l1 hk
    obtain ⟨q, rfl⟩ : ∃ m, k = m + 1 := ⟨k - 1, by omega⟩
    have B := rvx_bound s o o0 o1
    have U := unzM_bound (rvx s o).1
    have e4 : ∀ a, (s.extract a s.size).size ≤ 140737488351232 := fun a => by rw [ByteArray.size_extract]; omega
    simp only [impl_ReadTimes.l0]
    rw [if_pos (by omega), if_neg (by omega), impl_zag_yes s o q (by omega) hs o0 o1]
    simp only [Option.bind_some, zs]
    by_cases hz : (rvx s o).2 = 0
    · rw [if_pos hz, if_pos hz]
      simp only []
      rw [if_pos (by omega), w64 (n := i + 1) (by omega) (by omega)]
      exact impl_RT_no d q s _ _ _ n (i + 1) _ (by omega) (by omega) hn (by simp; omega) (e4 _) (by omega)
    · rw [if_neg hz, if_neg hz]
      simp only []
      rw [if_pos (by omega), w64 (n := i + 1) (by omega) (by omega), w64 (n := step + (unzM (rvx s o).1).1) (by omega) (by omega), w64 (n := last + (step + (unzM (rvx s o).1).1)) (by omega) (by omega)]
      by_cases hv : (rvx s o).1 ≤ 281474976710656
      · rw [decide_eq_true hv, ih q s _ _ _ n (o + (rvx s o).2) (i + 1) (by omega) (by omega) hn (by simp; omega) hs (by omega) (by omega) (by omega) (by omega) (by omega) (by omega) (by omega)]
        cases zs d s (o + (rvx s o).2) with
        | none => rfl
        | some r =>
          simp only [Option.elim_some, Option.map_some, stepsI, List.append_assoc, List.singleton_append]
          have e : zokM ((rvx s o).1 :: r.1) = (decide ((rvx s o).1 ≤ 281474976710656) && zokM r.1) := rfl
          rw [e, decide_eq_true hv, Bool.true_and]
      · rw [decide_eq_false hv, impl_RT_no d q s _ _ _ n (i + 1) _ (by omega) (by omega) hn (by simp; omega) (e4 _) (by omega)]
        cases zs d s (o + (rvx s o).2) with
        | none => rfl
        | some r =>
          simp only [Option.elim_some, Option.map_some]
          have e : zokM ((rvx s o).1 :: r.1) = (decide ((rvx s o).1 ≤ 281474976710656) && zokM r.1) := rfl
          rw [e, decide_eq_false hv, Bool.false_and, if_neg (by decide)]
theorem impl_RT_all (m k : Nat) (s : ByteArray) (n : Int) (hn : n = (m : Int) + 1) (h60 : n ≤ 60) (hs : s.size ≤ 140737488351232) (hk : m + 2097220 < k) :
    impl_ReadTimes.l0 k s [] 0 0 n 0 s true = some ((zs (m + 1) s 0).elim ([], 0) fun r => if zok2 r.1 = true then finT s (timesR r.1) else ([], 0)) := by
  obtain ⟨q, rfl⟩ : ∃ m, k = m + 2 := ⟨k - 2, by omega⟩
  have e4 : ∀ a, (s.extract a s.size).size ≤ 140737488351232 := fun a => by rw [ByteArray.size_extract]; omega
  have hx := impl_num_yes s 0 (q + 1) (by omega) hs (by omega) (by omega)
  rw [show s.extract (0 : Int).toNat s.size = s from extract_all s, show (0 : Int) + (rvx s 0).2 = (rvx s 0).2 by omega] at hx
  have B := rvx_bound s 0 (by omega) (by omega)
  rw [impl_ReadTimes.l0]
  rw [if_pos (by omega), if_pos (by omega), hx]
  simp only [Option.bind_some]
  rw [zs, show (0 : Int) + (rvx s 0).2 = (rvx s 0).2 by omega]
  by_cases hz : (rvx s 0).2 = 0
  · rw [if_pos hz, if_pos hz]
    simp only []
    rw [if_pos (by decide), show wrap64 (0 + 1) = 1 by have := w64 (n := 0 + 1) (by omega) (by omega); omega]
    exact impl_RT_no m (q + 1) s _ _ _ n 1 _ (by omega) (by omega) h60 (by simp) hs (by omega)
  · rw [if_neg hz, if_neg hz]
    simp only []
    rw [if_pos (by decide), show wrap64 (0 + 1) = 1 by have := w64 (n := 0 + 1) (by omega) (by omega); omega, w64 (n := 0 + (rvx s 0).1) (by omega) (by omega), show (0 : Int) + (rvx s 0).1 = (rvx s 0).1 by omega]
    cases m with
    | zero =>
      have h1 : n = 1 := by omega
      subst h1
      rw [impl_RT_end q s _ _ _ 1 _ (by simp) (by omega)]
      simp [zs, zok2, timesR]
    | succ m =>
      rw [impl_ReadTimes.l0]
      rw [if_pos (by omega), if_pos (by omega), impl_num_yes s (rvx s 0).2 q (by omega) hs (by omega) (by omega)]
      have B2 := rvx_bound s (rvx s 0).2 (by omega) (by omega)
      simp only [Option.bind_some]
      rw [zs]
      by_cases hz2 : (rvx s (rvx s 0).2).2 = 0
      · rw [if_pos hz2, if_pos hz2]
        simp only []
        rw [if_pos (by simp), show wrap64 (1 + 1) = 2 by have := w64 (n := 1 + 1) (by omega) (by omega); omega]
        exact impl_RT_no m q s _ _ _ n 2 _ (by omega) (by omega) h60 (by simp) (e4 _) (by omega)
      · rw [if_neg hz2, if_neg hz2]
        simp only []
        rw [if_pos (by simp), show wrap64 (1 + 1) = 2 by have := w64 (n := 1 + 1) (by omega) (by omega); omega, w64 (n := (rvx s 0).1 + (rvx s (rvx s 0).2).1) (by omega) (by omega), impl_RT_yes m q s _ _ _ n ((rvx s 0).2 + (rvx s (rvx s 0).2).2) 2 (by omega) (by omega) h60 (by simp) hs (by omega) (by omega) (by omega) (by omega) (by omega) (by omega) (by omega)]
        cases zs m s ((rvx s 0).2 + (rvx s (rvx s 0).2).2) with
        | none => rfl
        | some r => rfl
theorem impl_ReadTimes_f (s : ByteArray) (n : Int) (hs : s.size ≤ 140737488351232) (k : Nat) (hk : 2097400 ≤ k) : impl_ReadTimes.f k s n = some (readTimM s n) := by
  unfold impl_ReadTimes.f readTimM
  rw [impl_from_run]
  simp only [Option.bind_some, decide_eq_true_eq]
  by_cases hn : 1 ≤ n ∧ n ≤ 60
  · rw [if_pos hn, if_pos hn]
    obtain ⟨m, hm⟩ : ∃ m, n.toNat = m + 1 := ⟨n.toNat - 1, by omega⟩
    rw [impl_RT_all m k s n (by omega) hn.2 hs (by omega), hm]
    cases hz : zs (m + 1) s 0 with
    | none => rfl
    | some r =>
      obtain ⟨c1, c2, c3, c4, c5⟩ := zs_spec (m + 1) s 0 r.1 r.2 (by omega) (by omega) hz
      have c6 : (bytesOf s).take r.2.toNat = catV r.1 := by simpa using c5
      simp only [Option.elim_some]
      by_cases ho : zok2 r.1 = true
      · rw [if_pos ho]
        unfold finT
        by_cases hr : riseM (timesR r.1) = true
        · have g := (showTim_times r.1 (by omega) hr).trans ((timM_times r.1 c4).2 ho)
          have c7 : (catV r.1).length = r.2.toNat := by rw [← c6, List.length_take, bytesOf_length]; omega
          simp only [g]
          rw [if_neg (catV_ne (by omega) c4), c7, if_pos c6, if_pos (show zok2 r.1 = true ∧ riseM (timesR r.1) = true from ⟨ho, hr⟩), show ((r.2.toNat : Nat) : Int) = r.2 by omega]
        · rw [if_pos (showTim_no _ hr), if_neg (show ¬ (zok2 r.1 = true ∧ riseM (timesR r.1) = true) from fun h => hr h.2)]
      · rw [if_neg ho, if_neg (show ¬ (zok2 r.1 = true ∧ riseM (timesR r.1) = true) from fun h => ho h.1)]
  · rw [if_neg hn, if_neg hn]

/-! numbers that rise, and values, there and back -/
theorem unz_zig {d : Int} (h0 : -140737488355328 ≤ d) (h1 : d ≤ 140737488355328) : unzM (zigM d) = (d, true) := by
  unfold zigM
  rw [if_pos ⟨h0, h1⟩]
  unfold unzM
  by_cases hd : d < 0
  · rw [if_pos hd, if_pos (by omega), if_pos (by omega)]; simp only [Prod.mk.injEq, and_true]; omega
  · rw [if_neg hd, if_pos (by omega), if_neg (by omega)]; simp only [Prod.mk.injEq, and_true]; omega
theorem zig_range {d : Int} (h0 : -140737488355328 ≤ d) (h1 : d ≤ 140737488355328) : 0 ≤ zigM d ∧ zigM d ≤ 281474976710656 := by
  unfold zigM
  rw [if_pos ⟨h0, h1⟩]
  split <;> omega
theorem zs_back : ∀ (vs : List Int) (s : ByteArray) (o : Int) (t : List Int), 0 ≤ o → o ≤ (s.size : Int) → (∀ v ∈ vs, 0 ≤ v ∧ v < 562949953421312) → (bytesOf s).drop o.toNat = catV vs ++ t → zs vs.length s o = some (vs, o + ((catV vs).length : Int))
  | [], s, o, t, h0, h1, hv, h => by simp [zs, catV]
  | v :: r, s, o, t, h0, h1, hv, h => by
    obtain ⟨v0, v1⟩ := hv v List.mem_cons_self
    have hsz : (bytesOf s).length = s.size := bytesOf_length s
    have e : bytesOf (s.extract o.toNat s.size) = varM v ++ (catV r ++ t) := by
      rw [bytesOf_extract, List.take_of_length_le (by omega), h, catV, List.append_assoc]
    have e2 : rvx s o = (v, ((varM v).length : Int)) := by
      unfold rvx; rw [e, rv_varM v0 (by omega)]
    have hne : (varM v).length ≠ 0 := fun hc => varM_ne v0 v1 (List.length_eq_zero_iff.1 hc)
    have hlen := congrArg List.length h
    rw [List.length_drop, catV, List.length_append, List.length_append] at hlen
    have hd : (bytesOf s).drop (o + ((varM v).length : Int)).toNat = catV r ++ t := by
      rw [show (o + ((varM v).length : Int)).toNat = o.toNat + (varM v).length by omega, ← List.drop_drop, h, catV, List.append_assoc, List.drop_left' rfl]
    have ih := zs_back r s (o + ((varM v).length : Int)) t (by omega) (by omega) (fun x hx => hv x (List.mem_cons_of_mem _ hx)) hd
    rw [List.length_cons, zs, e2]
    simp only []
    rw [if_neg (by omega), ih]
    simp only [Option.map_some, catV, List.length_append]
    congr 2; omega
def difV : Int → List Int → List Int
  | _, [] => []
  | last, v :: r => zigM (v - last) :: difV v r
theorem difV_length : ∀ (l : List Int) (a : Int), (difV a l).length = l.length
  | [], _ => rfl
  | v :: r, a => by simp [difV, difV_length r]
theorem difV_all : ∀ (l : List Int) (a : Int), -1099511627776 ≤ a → a ≤ 1099511627776 → inV l = true → catV (difV a l) = valM a l ∧ sums a (difV a l) = l ∧ zokM (difV a l) = true ∧ ∀ v ∈ difV a l, 0 ≤ v ∧ v < 562949953421312
  | [], a, _, _, _ => ⟨rfl, rfl, rfl, fun v hv => by cases hv⟩
  | v :: r, a, a0, a1, h => by
    simp only [inV, List.all_cons, Bool.and_eq_true, decide_eq_true_eq] at h
    obtain ⟨⟨v0, v1⟩, hr⟩ := h
    obtain ⟨h1, h2, h3, h4⟩ := difV_all r v v0 v1 hr
    have hz := unz_zig (d := v - a) (by omega) (by omega)
    have hg := zig_range (d := v - a) (by omega) (by omega)
    refine ⟨?_, ?_, ?_, ?_⟩
    · simp only [difV, catV, valM]; rw [h1]
    · simp only [difV, sums]; rw [hz]; simp only []; rw [show a + (v - a) = v by omega, h2]
    · have e : zokM (difV a (v :: r)) = (decide (zigM (v - a) ≤ 281474976710656) && zokM (difV v r)) := rfl
      rw [e, h3, decide_eq_true hg.2]; rfl
    · intro x hx
      simp only [difV] at hx
      rcases List.mem_cons.1 hx with rfl | hx
      · omega
      · exact h4 x hx
theorem readVal_back (l : List Int) (t : ByteArray) (h : showValM l ≠ []) : readValM (strOfNums (showValM l) ++ t) (l.length : Int) = (l, ((showValM l).length : Int)) := by
  unfold showValM at h ⊢
  by_cases hc : 1 ≤ (l.length : Int) ∧ (l.length : Int) ≤ 60 ∧ inV l = true
  · rw [if_pos hc]
    obtain ⟨c0, c1, c2⟩ := hc
    obtain ⟨h1, h2, h3, h4⟩ := difV_all l 0 (by omega) (by omega) c2
    have hz := zs_back (difV 0 l) (strOfNums (valM 0 l) ++ t) 0 (bytesOf t) (by omega) (by omega) h4 (by
      rw [h1, bytesOf_append, bytesOf_strOfNums (valM_byt _ _)]; rfl)
    rw [difV_length, h1] at hz
    unfold readValM
    rw [if_pos ⟨c0, c1⟩, show ((l.length : Int)).toNat = l.length by omega, hz]
    simp only [Option.elim_some]
    rw [if_pos ⟨h3, by rw [h2]; exact c2⟩, h2]
    simp
  · rw [if_neg hc] at h; exact absurd rfl h
def dif2 : Int → Int → List Int → List Int
  | _, _, [] => []
  | p, q, x :: r => zigM (x - q - (q - p)) :: dif2 q x r
theorem dif2_length : ∀ (l : List Int) (p q : Int), (dif2 p q l).length = l.length
  | [], _, _ => rfl
  | v :: r, p, q => by simp [dif2, dif2_length r]
theorem dif2_all : ∀ (l : List Int) (p q : Int), 0 ≤ p → p ≤ 1099511627776 → 0 ≤ q → q ≤ 1099511627776 → risM q l = true → catV (dif2 p q l) = tim2 p q l ∧ stepsI q (q - p) (dif2 p q l) = l ∧ zokM (dif2 p q l) = true ∧ ∀ v ∈ dif2 p q l, 0 ≤ v ∧ v < 562949953421312
  | [], p, q, _, _, _, _, _ => ⟨rfl, rfl, rfl, fun v hv => by cases hv⟩
  | x :: r, p, q, p0, p1, q0, q1, h => by
    simp only [risM, Bool.and_eq_true, decide_eq_true_eq] at h
    obtain ⟨⟨x2, x0, x1⟩, hr⟩ := h
    obtain ⟨h1, h2, h3, h4⟩ := dif2_all r q x q0 q1 x0 x1 hr
    have hz := unz_zig (d := x - q - (q - p)) (by omega) (by omega)
    have hg := zig_range (d := x - q - (q - p)) (by omega) (by omega)
    refine ⟨?_, ?_, ?_, ?_⟩
    · simp only [dif2, catV, tim2]; rw [h1]
    · simp only [dif2, stepsI]; rw [hz]; simp only []; rw [show q - p + (x - q - (q - p)) = x - q by omega, show q + (x - q) = x by omega, h2]
    · have e : zokM (dif2 p q (x :: r)) = (decide (zigM (x - q - (q - p)) ≤ 281474976710656) && zokM (dif2 q x r)) := rfl
      rw [e, h3, decide_eq_true hg.2]; rfl
    · intro v hv
      simp only [dif2] at hv
      rcases List.mem_cons.1 hv with rfl | hv
      · omega
      · exact h4 v hv
def difT : List Int → List Int
  | [] => []
  | [v] => [v]
  | v :: w :: r => v :: (w - v) :: dif2 v w r
theorem difT_length : ∀ (l : List Int), (difT l).length = l.length
  | [] => rfl
  | [v] => rfl
  | v :: w :: r => by simp [difT, dif2_length]
theorem difT_all : ∀ (l : List Int), riseM l = true → catV (difT l) = timM l ∧ timesR (difT l) = l ∧ zok2 (difT l) = true ∧ ∀ v ∈ difT l, 0 ≤ v ∧ v < 562949953421312
  | [], _ => ⟨rfl, rfl, rfl, fun v hv => by cases hv⟩
  | [v], h => by
    simp only [riseM, risM, Bool.and_true, decide_eq_true_eq] at h
    refine ⟨by simp [difT, catV, timM, tim1], rfl, rfl, ?_⟩
    intro x hx
    rw [List.mem_singleton.1 hx]; omega
  | v :: w :: r, h => by
    simp only [riseM, risM, Bool.and_eq_true, decide_eq_true_eq] at h
    obtain ⟨⟨v0, v1⟩, ⟨w2, w0, w1⟩, hr⟩ := h
    obtain ⟨h1, h2, h3, h4⟩ := dif2_all r v w v0 v1 w0 w1 hr
    refine ⟨?_, ?_, h3, ?_⟩
    · simp only [difT, catV, timM, tim1]; rw [h1]
    · simp only [difT, timesR]; rw [show v + (w - v) = w by omega, h2]
    · intro x hx
      simp only [difT] at hx
      rcases List.mem_cons.1 hx with rfl | hx
      · omega
      · rcases List.mem_cons.1 hx with rfl | hx
        · omega
        · exact h4 x hx
theorem readTim_back (l : List Int) (t : ByteArray) (h : showTimM l ≠ []) : readTimM (strOfNums (showTimM l) ++ t) (l.length : Int) = (l, ((showTimM l).length : Int)) := by
  unfold showTimM at h ⊢
  by_cases hc : 1 ≤ (l.length : Int) ∧ (l.length : Int) ≤ 60 ∧ riseM l = true
  · rw [if_pos hc]
    obtain ⟨c0, c1, c2⟩ := hc
    obtain ⟨h1, h2, h3, h4⟩ := difT_all l c2
    have hz := zs_back (difT l) (strOfNums (timM l) ++ t) 0 (bytesOf t) (by omega) (by omega) h4 (by
      rw [h1, bytesOf_append, bytesOf_strOfNums (timM_byt _)]; rfl)
    rw [difT_length, h1] at hz
    unfold readTimM
    rw [if_pos ⟨c0, c1⟩, show ((l.length : Int)).toNat = l.length by omega, hz]
    simp only [Option.elim_some]
    rw [if_pos ⟨h3, by rw [h2]; exact c2⟩, h2]
    simp
  · rw [if_neg hc] at h; exact absurd rfl h
/-- what is read of a text is shown as its beginning -/
theorem readTim_to (s : ByteArray) (n : Int) : readTimM s n = ([], 0) ∨ (0 < (readTimM s n).2 ∧ (readTimM s n).2 ≤ (s.size : Int) ∧ showTimM (readTimM s n).1 = (bytesOf s).take (readTimM s n).2.toNat ∧ ((readTimM s n).1.length : Int) = n) := by
  unfold readTimM
  by_cases hn : 1 ≤ n ∧ n ≤ 60
  · rw [if_pos hn]
    cases hz : zs n.toNat s 0 with
    | none => exact .inl rfl
    | some r =>
      obtain ⟨c1, c2, c3, c4, c5⟩ := zs_spec n.toNat s 0 r.1 r.2 (by omega) (by omega) hz
      simp only [Option.elim_some]
      by_cases ho : zok2 r.1 = true ∧ riseM (timesR r.1) = true
      · rw [if_pos ho]
        right
        simp only []
        have e : (bytesOf s).take r.2.toNat = catV r.1 := by simpa using c5
        have hne := catV_ne (l := r.1) (by omega) c4
        have h0 : r.2 ≠ 0 := by
          intro hc
          rw [hc] at e
          exact hne (by rw [← e]; rfl)
        refine ⟨by omega, c2, ?_, by rw [timesR_length]; omega⟩
        rw [showTim_times r.1 (by omega) ho.2, (timM_times r.1 c4).2 ho.1, e]
      · rw [if_neg ho]; exact .inl rfl
  · rw [if_neg hn]; exact .inl rfl

/-! what is drawn -/
theorem and_low (x : Int) : 0 ≤ Go.bits .and .i64 x 255 ∧ Go.bits .and .i64 x 255 < 256 := by
  have e3 : Go.bits .and .i64 x 255 = IntKind.i64.wrap ((BitVec.ofInt 64 x &&& BitVec.ofInt 64 255).toNat : Int) := rfl
  have h : (BitVec.ofInt 64 x &&& BitVec.ofInt 64 255).toNat ≤ 255 := by
    rw [BitVec.toNat_and]
    exact Nat.le_trans Nat.and_le_right (by decide)
  rw [e3]
  generalize (BitVec.ofInt 64 x &&& BitVec.ofInt 64 255).toNat = m at h
  rw [wrapi (by omega) (by omega)]
  omega
theorem l1Byte_ok (l : List Int) (p s : Int) (hl : l.length ≤ 140737488355328) (h0 : 0 ≤ p) (h1 : p ≤ l.length) : ∃ b p' s', spec_l1Byte.f l p s = some (b, p', s') ∧ (0 ≤ b ∧ b < 256) ∧ 0 ≤ p' ∧ p' ≤ l.length := by
  unfold spec_l1Byte.f
  by_cases h : p < (l.length : Int)
  · rw [if_pos h, if_pos h0]
    refine ⟨_, _, _, rfl, and_low _, ?_⟩
    rw [w64 (n := p + 1) (by omega) (by omega)]; omega
  · rw [if_neg h]
    exact ⟨_, _, _, rfl, and_low _, h0, h1⟩
theorem tmod_range {a n : Int} (h0 : 0 ≤ a) (hn : 0 < n) : 0 ≤ Int.tmod a n ∧ Int.tmod a n < n := by
  rw [tmod_nn h0]; exact ⟨Int.emod_nonneg _ (by omega), Int.emod_lt_of_pos _ hn⟩
theorem l1Below_ok (l : List Int) (p s n : Int) (hl : l.length ≤ 140737488355328) (h0 : 0 ≤ p) (h1 : p ≤ l.length) : ∃ v p' s', spec_l1Below.f l p s n = some (v, p', s') ∧ 0 ≤ v ∧ (0 < n → v < n) ∧ 0 ≤ p' ∧ p' ≤ l.length := by
  unfold spec_l1Below.f
  by_cases hn : n ≤ 0
  · rw [if_pos hn]; exact ⟨_, _, _, rfl, by omega, by omega, h0, h1⟩
  · rw [if_neg hn]
    obtain ⟨b, p1, s1, e1, ⟨b0, b1⟩, q0, q1⟩ := l1Byte_ok l p s hl h0 h1
    rw [e1]
    simp only [Option.bind_some]
    by_cases hn2 : n ≤ 256
    · rw [if_pos hn2, if_neg (by omega)]
      have := tmod_range (a := b) (n := n) b0 (by omega)
      exact ⟨_, _, _, rfl, this.1, fun _ => this.2, q0, q1⟩
    · rw [if_neg hn2]
      obtain ⟨c, p2, s2, e2, ⟨c0, c1⟩, q2, q3⟩ := l1Byte_ok l p1 s1 hl q0 q1
      rw [e2]
      simp only [Option.bind_some]
      obtain ⟨d, p3, s3, e3, ⟨d0, d1⟩, q4, q5⟩ := l1Byte_ok l p2 s2 hl q2 q3
      rw [e3]
      simp only [Option.bind_some]
      obtain ⟨f, p4, s4, e4, ⟨f0, f1⟩, q6, q7⟩ := l1Byte_ok l p3 s3 hl q4 q5
      rw [e4]
      simp only [Option.bind_some]
      rw [if_neg (by omega), w64 (n := b * 16777216) (by omega) (by omega), w64 (n := c * 65536) (by omega) (by omega), w64 (n := d * 256) (by omega) (by omega), w64 (n := b * 16777216 + c * 65536) (by omega) (by omega), w64 (n := b * 16777216 + c * 65536 + d * 256) (by omega) (by omega), w64 (n := b * 16777216 + c * 65536 + d * 256 + f) (by omega) (by omega)]
      have := tmod_range (a := b * 16777216 + c * 65536 + d * 256 + f) (n := n) (by omega) (by omega)
      exact ⟨_, _, _, rfl, this.1, fun _ => this.2, q6, q7⟩
theorem l1Text_run : ∀ (d k : Nat) (acc : List Int) (m c : Int) (l : List Int) (p s : Int), c = d → acc.length + d ≤ 1000000 → l.length ≤ 140737488355328 → 0 ≤ p → p ≤ l.length → d < k →
    ∃ t p' s', spec_l1Text.l0 k acc m c l p s = some (t, p', s') ∧ t.size = acc.length + d ∧ 0 ≤ p' ∧ p' ≤ l.length := by
  intro d
  induction d with
  | zero =>
    intro k acc m c l p s hc ha hl h0 h1 hk
    obtain ⟨q, rfl⟩ : ∃ m, k = m + 1 := ⟨k - 1, by omega⟩
    simp only [spec_l1Text.l0]
    rw [if_neg (by omega)]
    exact ⟨_, _, _, rfl, by rw [size_strOfNums]; omega, h0, h1⟩
  | succ d ih =>
    intro k acc m c l p s hc ha hl h0 h1 hk
    obtain ⟨q, rfl⟩ : ∃ m, k = m + 1 := ⟨k - 1, by omega⟩
    obtain ⟨b, p1, s1, e1, _, q0, q1⟩ := l1Byte_ok l p s hl h0 h1
    have hc2 : wrap64 (c - 1) = (d : Int) := by rw [w64 (n := c - 1) (by omega) (by omega)]; omega
    have key : ∀ x, ∃ t p' s', spec_l1Text.l0 q (acc ++ [x]) m (wrap64 (c - 1)) l p1 s1 = some (t, p', s') ∧ t.size = acc.length + (d + 1) ∧ 0 ≤ p' ∧ p' ≤ l.length := by
      intro x
      obtain ⟨t, p', s', e, hs, g0, g1⟩ := ih q (acc ++ [x]) m (wrap64 (c - 1)) l p1 s1 hc2 (by simp; omega) hl q0 q1 (by omega)
      exact ⟨t, p', s', e, by rw [hs]; simp; omega, g0, g1⟩
    simp only [spec_l1Text.l0]
    rw [if_pos (by omega), e1]
    simp only [Option.bind_some]
    by_cases h1m : m = 1
    · rw [if_pos h1m, if_neg (by omega), if_pos (by omega)]; exact key _
    · rw [if_neg h1m]
      by_cases h2m : m = 2
      · rw [if_pos h2m, if_pos (by omega)]; exact key _
      · rw [if_neg h2m, if_pos (by omega)]; exact key _
theorem l1Text_ok (k : Nat) (l : List Int) (p s n : Int) (hl : l.length ≤ 140737488355328) (h0 : 0 ≤ p) (h1 : p ≤ l.length) (n0 : 0 ≤ n) (n1 : n ≤ 100000) (hk : n < k) : ∃ t p' s', spec_l1Text.f k l p s n = some (t, p', s') ∧ (t.size : Int) ≤ n ∧ 0 ≤ p' ∧ p' ≤ l.length := by
  unfold spec_l1Text.f
  obtain ⟨v, p1, s1, e1, _, _, q0, q1⟩ := l1Below_ok l p s 4 hl h0 h1
  rw [e1]
  simp only [Option.bind_some]
  obtain ⟨c, p2, s2, e2, c0, c1, q2, q3⟩ := l1Below_ok l p1 s1 (wrap64 (n + 1)) hl q0 q1
  rw [e2]
  simp only [Option.bind_some]
  have hw := w64 (n := n + 1) (by omega) (by omega)
  rw [hw] at c1
  have c2 := c1 (by omega)
  obtain ⟨t, p', s', e, hs, g⟩ := l1Text_run c.toNat k [] v c l p2 s2 (by omega) (by simp; omega) hl q2 q3 (by omega)
  refine ⟨t, p', s', e, ?_, g⟩
  rw [hs]; simp; omega
theorem l1New_run (l : List Int) (hl : l.length ≤ 140737488355328) : ∀ (d k : Nat) (x3 x4 : Int), 0 ≤ x4 → x4 ≤ 4000 → x4 + d = 4001 → d < k → ∃ s, spec_l1New.l0 k l x3 x4 = some (l, 0, s) := by
  intro d
  induction d with
  | zero => intro k x3 x4 h0 h1 h2; omega
  | succ d ih =>
    intro k x3 x4 h0 h1 h2 hk
    obtain ⟨q, rfl⟩ : ∃ m, k = m + 1 := ⟨k - 1, by omega⟩
    simp only [spec_l1New.l0]
    by_cases a : x4 < (l.length : Int)
    · rw [if_pos a]
      by_cases b : x4 < 4000
      · rw [if_pos b, if_pos h0, w64 (n := x4 + 1) (by omega) (by omega)]
        exact ih q _ _ (by omega) (by omega) (by omega) (by omega)
      · rw [if_neg b]; exact ⟨_, rfl⟩
    · rw [if_neg a]; exact ⟨_, rfl⟩
theorem l1New_ok (l : List Int) (hl : l.length ≤ 140737488355328) (k : Nat) (hk : 4001 < k) : ∃ s, spec_l1New.f k l = some (l, 0, s) := by
  unfold spec_l1New.f
  exact l1New_run l hl 4001 k _ 0 (by omega) (by omega) (by omega) hk

theorem drawHex_ok (l : List Int) (hl : l.length ≤ 140737488355328) (k : Nat) (hk : 4101 < k) : ∃ t, spec_DrawHex.f k l = some t ∧ t.size ≤ 40 := by
  unfold spec_DrawHex.f
  obtain ⟨s, e⟩ := l1New_ok l hl k (by omega)
  rw [e]
  simp only [Option.bind_some]
  obtain ⟨t, p, s2, e2, h, _⟩ := l1Text_ok k l 0 s 40 hl (by omega) (by omega) (by omega) (by omega) (by omega)
  rw [e2]
  exact ⟨t, rfl, by omega⟩

theorem l1Once_ok (l : List Int) (p s n : Int) (hl : l.length ≤ 140737488355328) (h0 : 0 ≤ p) (h1 : p ≤ l.length) : ∃ v p' s', spec_l1Once.f l p s n = some (v, p', s') ∧ 0 ≤ p' ∧ p' ≤ l.length := by
  unfold spec_l1Once.f
  obtain ⟨v, p1, s1, e1, _, _, q0, q1⟩ := l1Below_ok l p s n hl h0 h1
  rw [e1]; exact ⟨_, _, _, rfl, q0, q1⟩
theorem l1PickInt_ok (l : List Int) (p s : Int) (c : List Int) (hc : 0 < c.length) (hl : l.length ≤ 140737488355328) (h0 : 0 ≤ p) (h1 : p ≤ l.length) : ∃ v p' s', spec_l1PickInt.f l p s c = some (v, p', s') ∧ 0 ≤ p' ∧ p' ≤ l.length := by
  unfold spec_l1PickInt.f
  obtain ⟨v, p1, s1, e1, v0, v1, q0, q1⟩ := l1Below_ok l p s c.length hl h0 h1
  rw [e1]; simp only [Option.bind_some]
  rw [if_pos v0, if_pos (v1 (by omega))]; exact ⟨_, _, _, rfl, q0, q1⟩
theorem w64_range (x : Int) : -9223372036854775808 ≤ wrap64 x ∧ wrap64 x ≤ 9223372036854775807 := by
  unfold wrap64
  omega

theorem tim2_len : ∀ (l : List Int) (p q : Int), (tim2 p q l).length ≤ 7 * l.length
  | [], _, _ => Nat.zero_le _
  | t :: r, p, q => by
    rw [tim2, List.length_append, List.length_cons]
    have := varM_length (zigM (t - q - (q - p)))
    have := tim2_len r q t
    omega
theorem timM_len : ∀ (l : List Int), (timM l).length ≤ 7 * l.length
  | [] => Nat.zero_le _
  | [t] => by rw [timM, tim1, List.append_nil]; have := varM_length t; simp; omega
  | t :: u :: r => by
    rw [timM, tim1, List.length_append, List.length_append, List.length_cons, List.length_cons]
    have := varM_length t
    have := varM_length (u - t)
    have := tim2_len r t u
    omega
theorem showTimM_len (l : List Int) : (showTimM l).length ≤ 420 := by
  unfold showTimM
  split
  · rename_i h; have := timM_len l; omega
  · simp
theorem valM_len : ∀ (l : List Int) (a : Int), (valM a l).length ≤ 7 * l.length
  | [], _ => Nat.zero_le _
  | t :: r, a => by
    rw [valM, List.length_append, List.length_cons]
    have := varM_length (zigM (t - a))
    have := valM_len r t
    omega
theorem showValM_len (l : List Int) : (showValM l).length ≤ 420 := by
  unfold showValM
  split
  · rename_i h; have := valM_len l 0; omega
  · simp

/-! what FnBits draws -/
theorem spoil_ok (l : List Int) (p s : Int) (t : ByteArray) (ht : t.size ≤ 1000) (k : Nat) (hk : 10 < k) (hl : l.length ≤ 140737488355328) (h0 : 0 ≤ p) (h1 : p ≤ l.length) : ∃ u p' s', spec_l1Spoil.f k l p s t = some (u, p', s') ∧ u.size ≤ 1003 ∧ 0 ≤ p' ∧ p' ≤ l.length := by
  unfold spec_l1Spoil.f
  by_cases hz : (t.size : Int) = 0
  · rw [if_pos hz]
    obtain ⟨u, p1, s1, e1, hu, q0, q1⟩ := l1Text_ok k l p s 3 hl h0 h1 (by omega) (by omega) (by omega)
    rw [e1]; exact ⟨u, p1, s1, rfl, by omega, q0, q1⟩
  · rw [if_neg hz]
    obtain ⟨i, p1, s1, e1, i0, i1, q0, q1⟩ := l1Below_ok l p s t.size hl h0 h1
    rw [e1]; simp only [Option.bind_some]
    have i2 := i1 (by omega)
    obtain ⟨c, p2, s2, e2, _, _, q2, q3⟩ := l1Below_ok l p1 s1 4 hl q0 q1
    rw [e2]; simp only [Option.bind_some]
    have hA : (t.extract 0 i.toNat).size ≤ 1000 := by rw [ByteArray.size_extract]; omega
    have hB : ∀ a : Nat, (t.extract a t.size).size ≤ 1000 := fun a => by rw [ByteArray.size_extract]; omega
    have hAB : ∀ a : Nat, i.toNat ≤ a → (t.extract 0 i.toNat).size + (t.extract a t.size).size ≤ 1000 := fun a ha => by rw [ByteArray.size_extract, ByteArray.size_extract]; omega
    have hw : wrap64 (i + 1) = i + 1 := w64 (by omega) (by omega)
    rw [hw]
    by_cases c0 : c = 0
    · have := hB (i + 1).toNat
      have h2 := hAB (i + 1).toNat (by omega)
      rw [if_pos c0, if_pos i0, if_pos (by omega), if_pos (by omega), if_pos (by omega), if_pos (by omega)]; exact ⟨_, _, _, rfl, by rw [ByteArray.size_append]; omega, q2, q3⟩
    · rw [if_neg c0]
      by_cases c1 : c = 1
      · obtain ⟨b, p3, s3, e3, _, q4, q5⟩ := l1Byte_ok l p2 s2 hl q2 q3
        have hy : (strOfNums [b % 256]).size = 1 := by rw [size_strOfNums]; rfl
        have := hB i.toNat
        have h2 := hAB i.toNat (by omega)
        rw [if_pos c1, if_pos i0, if_pos (by omega), e3]; simp only [Option.bind_some]
        rw [if_pos (by omega), if_pos (by omega)]; exact ⟨_, _, _, rfl, by rw [ByteArray.size_append, ByteArray.size_append]; omega, q4, q5⟩
      · rw [if_neg c1]
        by_cases c2 : c = 2
        · rw [if_pos c2, if_pos i0, if_pos (by omega)]; exact ⟨_, _, _, rfl, by omega, q2, q3⟩
        · obtain ⟨b, p3, s3, e3, _, _, q4, q5⟩ := l1Below_ok l p2 s2 255 hl q2 q3
          rw [if_neg c2, if_pos i0, if_pos (by omega), if_pos i2, e3]; simp only [Option.bind_some]
          have hy : ∀ z : Int, (strOfNums [z]).size = 1 := fun z => by rw [size_strOfNums]; rfl
          have h2 := hB (i + 1).toNat
          have h4 := hAB (i + 1).toNat (by omega)
          have h3 := hy (Go.bits .xor .i64 (wrap64 (bt t i)) (wrap64 (1 + b)) % 256)
          rw [if_pos (by omega), if_pos (by omega), if_pos (by omega), if_pos (by omega)]; exact ⟨_, _, _, rfl, by rw [ByteArray.size_append, ByteArray.size_append]; omega, q4, q5⟩
theorem size_ok (l : List Int) (m : Int) (hl : l.length ≤ 140737488355328) (hm : 2 ≤ m) : ∃ r, spec_l1Size.f l m = some r ∧ 2 ≤ r ∧ r ≤ m := by
  unfold spec_l1Size.f
  rw [w64 (n := (l.length : Int) / 20) (by omega) (by omega), w64 (n := 2 + (l.length : Int) / 20) (by omega) (by omega)]
  split
  · exact ⟨m, rfl, hm, Int.le_refl _⟩
  · exact ⟨_, rfl, by omega, by omega⟩
theorem times_l1 : ∀ (d k : Nat) (x5 : List Int) (x9 : Int) (l : List Int) (p s : Int), x9 ≤ (x5.length : Int) + d → x5.length + d ≤ 100 → d < k → ∃ out, spec_l7Times.l1 k x5 x9 l p s = some (out, p, s) ∧ out.length ≤ 100 := by
  intro d
  induction d with
  | zero =>
    intro k x5 x9 l p s h0 h1 hk
    obtain ⟨q, rfl⟩ : ∃ m, k = m + 1 := ⟨k - 1, by omega⟩
    simp only [spec_l7Times.l1]
    rw [if_neg (by omega)]; exact ⟨_, rfl, by omega⟩
  | succ d ih =>
    intro k x5 x9 l p s h0 h1 hk
    obtain ⟨q, rfl⟩ : ∃ m, k = m + 1 := ⟨k - 1, by omega⟩
    simp only [spec_l7Times.l1]
    by_cases c : (x5.length : Int) < x9
    · rw [if_pos c, if_pos (by omega)]
      exact ih q _ x9 l p s (by simp; omega) (by simp; omega) (by omega)
    · rw [if_neg c]; exact ⟨_, rfl, by omega⟩
theorem times_j2 (k : Nat) (x5 l : List Int) (p s : Int) (hx : x5.length ≤ 100) (hk : 110 < k) (hl : l.length ≤ 140737488355328) (h0 : 0 ≤ p) (h1 : p ≤ l.length) : ∃ out p' s', spec_l7Times.j2 k x5 l p s = some (out, p', s') ∧ out.length ≤ 100 ∧ 0 ≤ p' ∧ p' ≤ l.length := by
  obtain ⟨q, rfl⟩ : ∃ m, k = m + 1 := ⟨k - 1, by omega⟩
  simp only [spec_l7Times.j2]
  obtain ⟨b, p1, s1, e1, q0, q1⟩ := l1Once_ok l p s 40 hl h0 h1
  rw [e1]; simp only [Option.bind_some]
  by_cases c : b = true
  · rw [if_pos c]
    obtain ⟨v, p2, s2, e2, v0, v1, q2, q3⟩ := l1Below_ok l p1 s1 2 hl q0 q1
    have v2 := v1 (by omega)
    rw [e2]; simp only [Option.bind_some]
    rw [w64 (n := 60 + v) (by omega) (by omega)]
    obtain ⟨out, e, ho⟩ := times_l1 61 q [] (60 + v) l p2 s2 (by simp; omega) (by simp) (by omega)
    exact ⟨out, p2, s2, e, ho, q2, q3⟩
  · rw [if_neg c]; exact ⟨_, _, _, rfl, hx, q0, q1⟩
theorem times_l0 : ∀ (d k : Nat) (x5 : List Int) (x6 x7 x8 : Int) (l : List Int) (p s : Int), x8 = d → x5.length + d ≤ 100 → 0 < x5.length + d → d + 120 < k → l.length ≤ 140737488355328 → 0 ≤ p → p ≤ l.length → ∃ out p' s', spec_l7Times.l0 k x5 x6 x7 x8 l p s = some (out, p', s') ∧ out.length ≤ 100 ∧ 0 ≤ p' ∧ p' ≤ l.length := by
  intro d
  induction d with
  | zero =>
    intro k x5 x6 x7 x8 l p s h8 hx hp hk hl h0 h1
    obtain ⟨q, rfl⟩ : ∃ m, k = m + 1 := ⟨k - 1, by omega⟩
    simp only [spec_l7Times.l0]
    rw [if_neg (by omega)]
    obtain ⟨b, p1, s1, e1, q0, q1⟩ := l1Once_ok l p s 10 hl h0 h1
    rw [e1]; simp only [Option.bind_some]
    by_cases c : b = true
    · rw [if_pos c]
      obtain ⟨v, p2, s2, e2, q2, q3⟩ := l1PickInt_ok l p1 s1 [(-1), 0, 1099511627776, 1099511627777, 100] (by simp) hl q0 q1
      rw [e2]; simp only [Option.bind_some]
      rw [w64 (n := (x5.length : Int) - 1) (by omega) (by omega), if_pos (by omega), if_pos (by omega)]
      exact times_j2 q _ l p2 s2 (by rw [List.length_set]; omega) (by omega) hl q2 q3
    · rw [if_neg c]; exact times_j2 q _ l p1 s1 (by omega) (by omega) hl q0 q1
  | succ d ih =>
    intro k x5 x6 x7 x8 l p s h8 hx hp hk hl h0 h1
    obtain ⟨q, rfl⟩ : ∃ m, k = m + 1 := ⟨k - 1, by omega⟩
    simp only [spec_l7Times.l0]
    rw [if_pos (by omega), if_pos (by omega)]; simp only [Option.bind_some]
    obtain ⟨b, p1, s1, e1, q0, q1⟩ := l1Once_ok l p s 3 hl h0 h1
    rw [e1]; simp only [Option.bind_some]
    have h82 : wrap64 (x8 - 1) = (d : Int) := by rw [w64 (n := x8 - 1) (by omega) (by omega)]; omega
    by_cases c : b = true
    · rw [if_pos c]
      obtain ⟨v, p2, s2, e2, v0, v1, q2, q3⟩ := l1Below_ok l p1 s1 60 hl q0 q1
      rw [e2]; simp only [Option.bind_some]
      exact ih q _ _ _ _ l p2 s2 h82 (by simp; omega) (by simp; omega) (by omega) hl q2 q3
    · rw [if_neg c]; exact ih q _ _ _ _ l p1 s1 h82 (by simp; omega) (by simp; omega) (by omega) hl q0 q1
theorem times_j0 (k : Nat) (m t : Int) (l : List Int) (p s : Int) (m0 : 2 ≤ m) (m1 : m ≤ 20) (hk : 200 < k) (hl : l.length ≤ 140737488355328) (h0 : 0 ≤ p) (h1 : p ≤ l.length) : ∃ out p' s', spec_l7Times.j0 k m [] t l p s = some (out, p', s') ∧ out.length ≤ 100 ∧ 0 ≤ p' ∧ p' ≤ l.length := by
  obtain ⟨q, rfl⟩ : ∃ m, k = m + 1 := ⟨k - 1, by omega⟩
  simp only [spec_l7Times.j0]
  obtain ⟨v, p1, s1, e1, v0, v1, q0, q1⟩ := l1Below_ok l p s 40 hl h0 h1
  rw [e1]; simp only [Option.bind_some]
  obtain ⟨u, p2, s2, e2, u0, u1, q2, q3⟩ := l1Below_ok l p1 s1 m hl q0 q1
  have u2 := u1 (by omega)
  rw [e2]; simp only [Option.bind_some]
  rw [w64 (n := 1 + u) (by omega) (by omega)]
  exact times_l0 (1 + u).toNat q [] _ _ _ l p2 s2 (by omega) (by simp; omega) (by simp; omega) (by omega) hl q2 q3
theorem times_ok (k : Nat) (m : Int) (l : List Int) (p s : Int) (m0 : 2 ≤ m) (m1 : m ≤ 20) (hk : 200 < k) (hl : l.length ≤ 140737488355328) (h0 : 0 ≤ p) (h1 : p ≤ l.length) : ∃ out p' s', spec_l7Times.f k l p s m = some (out, p', s') ∧ out.length ≤ 100 ∧ 0 ≤ p' ∧ p' ≤ l.length := by
  unfold spec_l7Times.f
  simp only [Option.bind_some]
  obtain ⟨v, p1, s1, e1, v0, v1, q0, q1⟩ := l1Below_ok l p s 400 hl h0 h1
  rw [e1]; simp only [Option.bind_some]
  obtain ⟨b, p2, s2, e2, q2, q3⟩ := l1Once_ok l p1 s1 12 hl q0 q1
  rw [e2]; simp only [Option.bind_some]
  by_cases c : b = true
  · rw [if_pos c]
    obtain ⟨u, p3, s3, e3, u0, u1, q4, q5⟩ := l1Below_ok l p2 s2 300 hl q2 q3
    rw [e3]; simp only [Option.bind_some]
    exact times_j0 k m _ l p3 s3 m0 m1 hk hl q4 q5
  · rw [if_neg c]; exact times_j0 k m _ l p2 s2 m0 m1 hk hl q2 q3
theorem ints_l0 : ∀ (d k : Nat) (x5 : List Int) (x6 x7 : Int) (l : List Int) (p s : Int), x7 = d → x5.length + d ≤ 100 → d < k → l.length ≤ 140737488355328 → 0 ≤ p → p ≤ l.length → ∃ out p' s', spec_l7Ints.l0 k x5 x6 x7 l p s = some (out, p', s') ∧ out.length ≤ 100 := by
  intro d
  induction d with
  | zero =>
    intro k x5 x6 x7 l p s h8 hx hk hl h0 h1
    obtain ⟨q, rfl⟩ : ∃ m, k = m + 1 := ⟨k - 1, by omega⟩
    simp only [spec_l7Ints.l0]
    rw [if_neg (by omega)]; exact ⟨_, _, _, rfl, by omega⟩
  | succ d ih =>
    intro k x5 x6 x7 l p s h8 hx hk hl h0 h1
    obtain ⟨q, rfl⟩ : ∃ m, k = m + 1 := ⟨k - 1, by omega⟩
    simp only [spec_l7Ints.l0]
    rw [if_pos (by omega), if_pos (by omega)]; simp only [Option.bind_some]
    obtain ⟨v, p1, s1, e1, v0, v1, q0, q1⟩ := l1Below_ok l p s 21 hl h0 h1
    rw [e1]; simp only [Option.bind_some]
    obtain ⟨b, p2, s2, e2, q2, q3⟩ := l1Once_ok l p1 s1 20 hl q0 q1
    rw [e2]; simp only [Option.bind_some]
    have h82 : wrap64 (x7 - 1) = (d : Int) := by rw [w64 (n := x7 - 1) (by omega) (by omega)]; omega
    by_cases c : b = true
    · rw [if_pos c]
      obtain ⟨u, p3, s3, e3, q4, q5⟩ := l1PickInt_ok l p2 s2 [1099511627776, (-1099511627776), 1099511627777, 0] (by simp) hl q2 q3
      rw [e3]; simp only [Option.bind_some]
      exact ih q _ _ _ l p3 s3 h82 (by simp; omega) (by omega) hl q4 q5
    · rw [if_neg c]; exact ih q _ _ _ l p2 s2 h82 (by simp; omega) (by omega) hl q2 q3
theorem ints_ok (k : Nat) (m : Int) (l : List Int) (p s : Int) (m0 : 2 ≤ m) (m1 : m ≤ 20) (hk : 200 < k) (hl : l.length ≤ 140737488355328) (h0 : 0 ≤ p) (h1 : p ≤ l.length) : ∃ out p' s', spec_l7Ints.f k l p s m = some (out, p', s') ∧ out.length ≤ 100 := by
  unfold spec_l7Ints.f
  obtain ⟨v, p1, s1, e1, v0, v1, q0, q1⟩ := l1Below_ok l p s 100 hl h0 h1
  rw [e1]; simp only [Option.bind_some]
  obtain ⟨u, p2, s2, e2, u0, u1, q2, q3⟩ := l1Below_ok l p1 s1 m hl q0 q1
  have u2 := u1 (by omega)
  rw [e2]; simp only [Option.bind_some]
  rw [w64 (n := 1 + u) (by omega) (by omega)]
  exact ints_l0 (1 + u).toNat k [] _ _ l p2 s2 (by omega) (by simp; omega) (by omega) hl q2 q3
theorem drawTimes_ok (l : List Int) (hl : l.length ≤ 1048576) (k : Nat) (hk : 4101 < k) : ∃ t, spec_DrawShowTimes.f k l = some t ∧ t.length ≤ 100 := by
  unfold spec_DrawShowTimes.f
  obtain ⟨s, e⟩ := l1New_ok l (by omega) k (by omega)
  rw [e, Option.bind_some]; (try dsimp only)
  obtain ⟨m, em, m0, m1⟩ := size_ok l 20 (by omega) (by omega)
  rw [em, Option.bind_some]; (try dsimp only)
  obtain ⟨out, p', s', e2, ho, _⟩ := times_ok k m l 0 s m0 m1 (by omega) (by omega) (by omega) (by omega)
  rw [e2]; exact ⟨out, rfl, ho⟩
theorem drawValues_ok (l : List Int) (hl : l.length ≤ 1048576) (k : Nat) (hk : 4101 < k) : ∃ t, spec_DrawShowValues.f k l = some t ∧ t.length ≤ 100 := by
  unfold spec_DrawShowValues.f
  obtain ⟨s, e⟩ := l1New_ok l (by omega) k (by omega)
  rw [e, Option.bind_some]; (try dsimp only)
  obtain ⟨m, em, m0, m1⟩ := size_ok l 20 (by omega) (by omega)
  rw [em, Option.bind_some]; (try dsimp only)
  obtain ⟨out, p', s', e2, ho⟩ := ints_ok k m l 0 s m0 m1 (by omega) (by omega) (by omega) (by omega)
  rw [e2]; exact ⟨out, rfl, ho⟩
theorem drawRT_j0 (k : Nat) (u : ByteArray) (n : Int) (l : List Int) (p s : Int) (hk : 0 < k) (hl : l.length ≤ 140737488355328) (h0 : 0 ≤ p) (h1 : p ≤ l.length) : ∃ m, spec_DrawReadTimes.j0 k u n l p s = some (u, m) := by
  obtain ⟨q, rfl⟩ : ∃ m, k = m + 1 := ⟨k - 1, by omega⟩
  simp only [spec_DrawReadTimes.j0]
  obtain ⟨b, p1, s1, e1, q0, q1⟩ := l1Once_ok l p s 6 hl h0 h1
  rw [e1, Option.bind_some]; (try dsimp only)
  by_cases c : b = true
  · rw [if_pos c]
    obtain ⟨v, p2, s2, e2, q2, q3⟩ := l1PickInt_ok l p1 s1 [(-1), 0, 1, wrap64 (n + 1), 61] (by simp) hl q0 q1
    rw [e2]; exact ⟨_, rfl⟩
  · rw [if_neg c]; exact ⟨_, rfl⟩
theorem drawRT_ok (l : List Int) (hl : l.length ≤ 1048576) (k : Nat) (hk : 5000 < k) : ∃ u m, spec_DrawReadTimes.f k l = some (u, m) ∧ u.size ≤ 1003 := by
  unfold spec_DrawReadTimes.f
  obtain ⟨s, e⟩ := l1New_ok l (by omega) k (by omega)
  rw [e, Option.bind_some]; (try dsimp only)
  obtain ⟨m, em, m0, m1⟩ := size_ok l 12 (by omega) (by omega)
  rw [em, Option.bind_some]; (try dsimp only)
  obtain ⟨out, p', s', e2, ho, q0, q1⟩ := times_ok k m l 0 s m0 (by omega) (by omega) (by omega) (by omega) (by omega)
  rw [e2, Option.bind_some]; (try dsimp only)
  rw [spec_ShowTimes_f out k (by omega), Option.bind_some]; (try dsimp only)
  obtain ⟨t, p2, s2, e3, ht, q2, q3⟩ := l1Text_ok k l p' s' 3 (by omega) q0 q1 (by omega) (by omega) (by omega)
  rw [e3, Option.bind_some]; (try dsimp only)
  have hs : (strOfNums (showTimM out)).size ≤ 420 := by rw [size_strOfNums]; exact showTimM_len out
  rw [if_pos (by omega)]
  obtain ⟨b, p3, s3, e4, q4, q5⟩ := l1Once_ok l p2 s2 4 (by omega) q2 q3
  rw [e4, Option.bind_some]; (try dsimp only)
  by_cases c : b = true
  · rw [if_pos c]
    obtain ⟨u, p4, s4, e5, hu, q6, q7⟩ := spoil_ok l p3 s3 (strOfNums (showTimM out) ++ t) (by rw [ByteArray.size_append]; omega) k (by omega) (by omega) q4 q5
    rw [e5, Option.bind_some]; (try dsimp only)
    obtain ⟨m2, e6⟩ := drawRT_j0 k u (out.length : Int) l p4 s4 (by omega) (by omega) q6 q7
    exact ⟨u, m2, e6, hu⟩
  · rw [if_neg c]
    obtain ⟨m2, e6⟩ := drawRT_j0 k (strOfNums (showTimM out) ++ t) (out.length : Int) l p3 s3 (by omega) (by omega) q4 q5
    exact ⟨_, m2, e6, by rw [ByteArray.size_append]; omega⟩
theorem drawZig_ok (l : List Int) (hl : l.length ≤ 1048576) (k : Nat) (hk : 4101 < k) : ∃ n, spec_DrawZigZag.f k l = some n := by
  unfold spec_DrawZigZag.f
  obtain ⟨s, e⟩ := l1New_ok l (by omega) k (by omega)
  rw [e, Option.bind_some]; (try dsimp only)
  obtain ⟨b, p1, s1, e1, q0, q1⟩ := l1Once_ok l 0 s 4 (by omega) (by omega) (by omega)
  rw [e1, Option.bind_some]; (try dsimp only)
  by_cases c : b = true
  · rw [if_pos c]
    obtain ⟨v, p2, s2, e2, q2, q3⟩ := l1PickInt_ok l p1 s1 [0, (-1), 140737488355328, 140737488355329, (-140737488355328), (-140737488355329), 9223372036854775807, (-9223372036854775808)] (by simp) (by omega) q0 q1
    rw [e2]; exact ⟨_, rfl⟩
  · rw [if_neg c]
    obtain ⟨v, p2, s2, e2, v0, v1, q2, q3⟩ := l1Below_ok l p1 s1 2000 (by omega) q0 q1
    rw [e2]; exact ⟨_, rfl⟩

theorem sameInts_run (l : List Int) (hl : l.length ≤ 1048576) : ∀ (d k : Nat) (i : Int), 0 ≤ i → i + d = l.length → d < k → laws_sameInts.l0 k l l i = some true := by
  intro d
  induction d with
  | zero =>
    intro k i h0 h1 hk
    obtain ⟨q, rfl⟩ : ∃ m, k = m + 1 := ⟨k - 1, by omega⟩
    simp only [laws_sameInts.l0]; rw [if_neg (by omega)]
  | succ d ih =>
    intro k i h0 h1 hk
    obtain ⟨q, rfl⟩ : ∃ m, k = m + 1 := ⟨k - 1, by omega⟩
    simp only [laws_sameInts.l0]
    rw [if_pos (by omega), if_pos h0, if_pos (by omega), if_pos trivial, w64 (n := i + 1) (by omega) (by omega), ih q (i + 1) (by omega) (by omega) (by omega)]
theorem sameInts_f (l : List Int) (hl : l.length ≤ 1048576) (k : Nat) (hk : l.length < k) : laws_sameInts.f k l l = some true := by
  unfold laws_sameInts.f; rw [if_pos rfl]; exact sameInts_run l hl l.length k 0 (by omega) (by omega) hk
theorem toL_ne {l : List Int} (h : l ≠ []) : (strOfNums l).toList ≠ [] := by
  intro hc
  have := toL0 hc
  rw [size_strOfNums] at this
  exact h (List.length_eq_zero_iff.1 this)
theorem FnBits_j1 (l : List Int) (hl : l.length ≤ 1048576) (k : Nat) (hk : 2097500 < k) : laws_FnBits.j1 k l false = some true := by
  obtain ⟨q, rfl⟩ : ∃ m, k = m + 1 := ⟨k - 1, by omega⟩
  simp only [laws_FnBits.j1]
  rw [if_neg (by decide)]
  obtain ⟨u, n, eu, hu⟩ := drawRT_ok l hl q (by omega)
  rw [eu]; simp only [Option.bind_some]
  rw [impl_ReadTimes_f u n (by omega) q (by omega)]; simp only [Option.bind_some]
  obtain ⟨w, ew⟩ := drawZig_ok l hl q (by omega)
  rw [ew]; simp only [Option.bind_some]
  rw [impl_ZigZag_run]; simp only [Option.bind_some]
  rw [impl_UnZig_run]; simp only [Option.bind_some]
  have tail : (if zigM w < 0 then (if (unzM (zigM w)).2 = true then (if zigM w ≥ 0 then (some ((unzM (zigM w)).1 == w)) else (some false)) else (some true)) else (if zigM w ≥ 0 then (if (unzM (zigM w)).2 = true then (some ((unzM (zigM w)).1 == w)) else (some false)) else (some false))) = some true := by
    by_cases hw : -140737488355328 ≤ w ∧ w ≤ 140737488355328
    · have h1 := unz_zig hw.1 hw.2
      have h2 := zig_range hw.1 hw.2
      rw [if_neg (by omega), if_pos (by omega), h1]; simp
    · have h1 : zigM w = -1 := by unfold zigM; rw [if_neg hw]
      rw [h1, if_pos (by decide), show unzM (-1) = (0, false) by decide, if_neg (by decide)]
  rcases readTim_to u n with h | ⟨h1, h2, h3, h4⟩
  · rw [h]; simp only []; rw [if_pos trivial]; exact tail
  · have hlen : (readTimM u n).1.length ≤ 60 := by
      unfold readTimM at h4 ⊢
      by_cases hn : 1 ≤ n ∧ n ≤ 60
      · rw [if_pos hn] at h4 ⊢; omega
      · rw [if_neg hn]; simp
    generalize readTimM u n = r at *
    rw [if_neg (by omega), if_pos (by omega), if_pos h2, impl_ShowTimes_f r.1 (by omega) q (by omega)]; simp only [Option.bind_some]
    rw [if_pos (by omega), if_pos, if_pos h4]
    · exact tail
    · rw [text_eq (showTimM_byt _), bytesOf_extract, List.drop_zero]; exact h3
theorem FnBits_j0 (l : List Int) (hl : l.length ≤ 1048576) (t : ByteArray) (ht : t.size ≤ 40) (k : Nat) (hk : 2097510 < k) : laws_FnBits.j0 k l t false = some true := by
  obtain ⟨q, rfl⟩ : ∃ m, k = m + 1 := ⟨k - 1, by omega⟩
  have hj := FnBits_j1 l hl q (by omega)
  simp only [laws_FnBits.j0]
  rw [if_neg (by decide)]
  obtain ⟨v, ev, hv⟩ := drawValues_ok l hl q (by omega)
  rw [ev]; simp only [Option.bind_some]
  rw [impl_ShowValues_f v (by omega) q (by omega), spec_ShowValues_f v (by omega) q (by omega)]; simp only [Option.bind_some, bne_self_eq_false]
  have hs : (strOfNums (showValM v)).size ≤ 420 := by rw [size_strOfNums]; exact showValM_len v
  rw [if_pos (by omega), impl_ReadValues_f _ _ (by rw [ByteArray.size_append]; omega) q (by omega)]; simp only [Option.bind_some]
  by_cases hz : showValM v = []
  · rw [hz, if_pos (show (strOfNums []).toList = ([] : List UInt8) from tl0)]; exact hj
  · rw [if_neg (toL_ne hz), readVal_back v t hz]
    simp only []
    rw [if_pos (by rw [size_strOfNums]), sameInts_f v (by omega) q (by omega)]; simp only [Option.bind_some]
    rw [if_pos trivial]; exact hj
theorem FnBits : laws_FnBits.Pure := by
  intro l h0 h1 h
  unfold laws_FnBits.f laws_big.f
  simp only [Option.bind_some, decide_eq_true_eq]
  by_cases hb : (l.length : Int) > 1048576
  · exact ⟨0, by rw [if_pos hb]⟩
  · obtain ⟨K, hK⟩ : ∃ K : Nat, K = 2097600 := ⟨_, rfl⟩
    refine ⟨K, ?_⟩
    rw [if_neg hb]
    obtain ⟨v, ev, hv⟩ := drawTimes_ok l (by omega) K (by omega)
    rw [ev]; simp only [Option.bind_some]
    obtain ⟨t, et, ht⟩ := drawHex_ok l (by omega) K (by omega)
    rw [et]; simp only [Option.bind_some]
    have hj := FnBits_j0 l (by omega) t ht K (by omega)
    rw [impl_ShowTimes_f v (by omega) K (by omega)]; simp only [Option.bind_some]
    have hs : (strOfNums (showTimM v)).size ≤ 420 := by rw [size_strOfNums]; exact showTimM_len v
    rw [if_pos (by omega), impl_ReadTimes_f _ _ (by rw [ByteArray.size_append]; omega) K (by omega)]; simp only [Option.bind_some]
    by_cases hz : showTimM v = []
    · rw [hz, if_pos (show (strOfNums []).toList = ([] : List UInt8) from tl0)]; exact hj
    · rw [if_neg (toL_ne hz), readTim_back v t hz]
      simp only []
      rw [if_pos (by rw [size_strOfNums]), sameInts_f v (by omega) K (by omega)]; simp only [Option.bind_some]
      exact hj

end Go.Proofs.Ytfmddjbekophnaa.Pure
