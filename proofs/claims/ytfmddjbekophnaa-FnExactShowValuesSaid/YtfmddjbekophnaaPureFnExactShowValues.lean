/- FnExactShowValues: for every slice of numbers the program's ShowValues returns what the reference's returns. -/
import Derived.Test.YtfmddjbekophnaaPFnExactShowValuesx2
import Derived.Test.YtfmddjbekophnaaPFnExactShowValuesx2
import Derived.Test.YtfmddjbekophnaaBase
import Derived.Test.YtfmddjbekophnaaNum
import Derived.Test.YtfmddjbekophnaaNumBits
namespace Go.Proofs.Ytfmddjbekophnaa.Pure
open Go.RowKit Go.Proofs.Ytfmddjbekophnaa.PFnExactShowValues Go.Proofs.YtfmddjbekophnaaW.PrintWords Go.Proofs.YtfmddjbekophnaaW.PrintLast Go.Proofs.YtfmddjbekophnaaW.PrintMore Go.Proofs.Ytfmddjbekophnaa.Base
set_option linter.unusedVariables false
set_option linter.unusedSimpArgs false

/-! ranges -/
theorem spec_l1In_run (a b c : Int) : spec_l1In.f a b c = some (decide (b ≤ a ∧ a ≤ c)) := by
  unfold spec_l1In.f
  by_cases h : a ≥ b
  · rw [if_pos h]; congr 1; simp [show b ≤ a from h]
  · rw [if_neg h]; congr 1; simp; omega

theorem impl_from_run (a b c : Int) : impl_from.f a b c = some (decide (b ≤ a ∧ a ≤ c)) := by
  unfold impl_from.f
  by_cases h : a ≥ b
  · rw [if_pos h]; congr 1; simp [show b ≤ a from h]
  · rw [if_neg h]; congr 1; simp; omega

/-! slices of numbers -/
theorem rd_at (a b : List Int) (x i : Int) (h : i = a.length) : rd (a ++ x :: b) i = x := by
  subst h; simp [rd, List.getD]
theorem set_at (a b : List Int) (x y : Int) : (a ++ x :: b).set ((a.length : Int)).toNat y = a ++ y :: b := by
  rw [show ((a.length : Int)).toNat = a.length by omega, List.set_append_right _ _ (Nat.le_refl _), Nat.sub_self, List.set_cons_zero]
theorem laws_toIntS_run : ∀ (b a : List Int) (k : Nat), a.length + b.length ≤ 1048576 → b.length < k →
    laws_toIntS.l0 k (a ++ b) (a ++ List.replicate b.length 0) (a.length : Int) = some (a ++ b) := by
  intro b
  induction b with
  | nil =>
    intro a k h0 hk
    obtain ⟨q, rfl⟩ : ∃ m, k = m + 1 := ⟨k - 1, by omega⟩
    simp only [laws_toIntS.l0]
    rw [if_neg (by simp)]; simp
  | cons x b ih =>
    intro a k h0 hk
    simp only [List.length_cons] at h0 hk
    obtain ⟨q, rfl⟩ : ∃ m, k = m + 1 := ⟨k - 1, by omega⟩
    simp only [laws_toIntS.l0]
    rw [if_pos (by simp; omega), if_pos (by omega), if_pos (by simp; omega), rd_at _ _ _ _ rfl, List.length_cons, List.replicate_succ, set_at, w64 (n := (a.length : Int) + 1) (by omega) (by omega)]
    have f := ih (a ++ [x]) q (by simp; omega) (by omega)
    rw [List.append_assoc, List.singleton_append, show (((a ++ [x]).length : Nat) : Int) = (a.length : Int) + 1 by simp, List.append_assoc, List.singleton_append] at f
    exact f
theorem laws_toIntS_f (l : List Int) (hl : l.length ≤ 1048576) (k : Nat) (hk : l.length < k) : laws_toIntS.f k l = some l := by
  unfold laws_toIntS.f
  rw [if_pos (by omega), show ((l.length : Int)).toNat = l.length by omega, if_pos (by omega)]
  have := laws_toIntS_run l [] k (by simp; omega) hk
  simpa using this
theorem laws_eqIntS_run (l : List Int) (hl : l.length ≤ 1099511627776) : ∀ (d k : Nat) (i : Int), 0 ≤ i → i + d = l.length → d < k → laws_eqIntS.l0 k l l i = some true := by
  intro d
  induction d with
  | zero =>
    intro k i h0 h1 hk
    obtain ⟨q, rfl⟩ : ∃ m, k = m + 1 := ⟨k - 1, by omega⟩
    simp only [laws_eqIntS.l0]; rw [if_neg (by omega)]
  | succ d ih =>
    intro k i h0 h1 hk
    obtain ⟨q, rfl⟩ : ∃ m, k = m + 1 := ⟨k - 1, by omega⟩
    simp only [laws_eqIntS.l0]
    rw [if_pos (by omega), if_pos h0, if_pos (by omega), if_pos trivial, w64 (n := i + 1) (by omega) (by omega), ih q (i + 1) (by omega) (by omega) (by omega)]
theorem laws_eqIntS_f (l : List Int) (hl : l.length ≤ 1099511627776) (k : Nat) (hk : l.length < k) : laws_eqIntS.f k l l = some true := by
  unfold laws_eqIntS.f; rw [if_pos rfl]; exact laws_eqIntS_run l hl l.length k 0 (by omega) (by omega) hk

/-! Var -/
theorem spec_Var_run : ∀ (d k n : Nat) (xs : List Int), n < 128 ^ (d + 1) → d ≤ 7 → xs.length + d < 100 → d < k →
    spec_Var.l0 k (n : Int) xs = some (strOfNums (xs ++ varN n)) := by
  intro d
  induction d with
  | zero =>
    intro k n xs h0 h7 h1 hk
    obtain ⟨k, rfl⟩ : ∃ m, k = m + 1 := ⟨k - 1, by omega⟩
    simp only [spec_Var.l0]
    rw [if_neg (by omega), if_pos (by omega), varN_lt (by omega), show (n : Int) % 256 = n by omega]
  | succ d ih =>
    intro k n xs h0 h7 h1 hk
    obtain ⟨k, rfl⟩ : ∃ m, k = m + 1 := ⟨k - 1, by omega⟩
    simp only [spec_Var.l0]
    have hb : n < 128 ^ 9 := Nat.lt_of_lt_of_le h0 (Nat.pow_le_pow_right (by omega) (by omega))
    by_cases h : n < 128
    · rw [if_neg (by omega), if_pos (by omega), varN_lt h, show (n : Int) % 256 = n by omega]
    · rw [if_pos (by omega), if_pos (by omega), varN_ge h, tdiv_nn (by omega), tmod_nn (by omega), w64 (n := (n : Int) / 128) (by omega) (by omega), w64 (n := 128 + (n : Int) % 128) (by omega) (by omega)]
      have e : (n : Int) / 128 = ((n / 128 : Nat) : Int) := by omega
      rw [e, ih k (n / 128) _ (by rw [pow128] at h0; omega) (by omega) (by simp; omega) (by omega)]
      have e2 : (128 + (n : Int) % 128) % 256 = ((n % 128 + 128 : Nat) : Int) := by omega
      rw [e2]; simp

theorem spec_Var_f (n : Int) (k : Nat) (hk : 8 < k) : spec_Var.f k n = some (strOfNums (varM n)) := by
  unfold spec_Var.f varM
  rw [spec_l1In_run]; simp only [Option.bind_some, decide_eq_true_eq]
  by_cases h : 0 ≤ n ∧ n ≤ 562949953421311
  · rw [if_pos h, if_pos h]
    have := spec_Var_run 6 k n.toNat [] (by omega) (by omega) (by simp) (by omega)
    rw [show ((n.toNat : Nat) : Int) = n by omega] at this
    rw [this]; rfl
  · rw [if_neg h, if_neg h]; rfl

theorem impl_Var_run : ∀ (d k n : Nat) (xs : List Int), n < 128 ^ (d + 1) → d ≤ 7 → xs.length + d < 100 → d < k →
    impl_Var.l0 k (n : Int) xs = some (strOfNums (xs ++ varN n)) := by
  intro d
  induction d with
  | zero =>
    intro k n xs h0 h7 h1 hk
    obtain ⟨k, rfl⟩ : ∃ m, k = m + 1 := ⟨k - 1, by omega⟩
    simp only [impl_Var.l0]
    rw [if_neg (by omega), if_pos (by omega), varN_lt (by omega), show (n : Int) % 256 = n by omega]
  | succ d ih =>
    intro k n xs h0 h7 h1 hk
    obtain ⟨k, rfl⟩ : ∃ m, k = m + 1 := ⟨k - 1, by omega⟩
    simp only [impl_Var.l0]
    have hb : n < 128 ^ 9 := Nat.lt_of_lt_of_le h0 (Nat.pow_le_pow_right (by omega) (by omega))
    by_cases h : n < 128
    · rw [if_neg (by omega), if_pos (by omega), varN_lt h, show (n : Int) % 256 = n by omega]
    · rw [if_pos (by omega), if_pos (by omega), varN_ge h, tdiv_nn (by omega), tmod_nn (by omega), w64 (n := (n : Int) / 128) (by omega) (by omega), w64 (n := (n : Int) % 128 + 128) (by omega) (by omega)]
      have e : (n : Int) / 128 = ((n / 128 : Nat) : Int) := by omega
      rw [e, ih k (n / 128) _ (by rw [pow128] at h0; omega) (by omega) (by simp; omega) (by omega)]
      have e2 : ((n : Int) % 128 + 128) % 256 = ((n % 128 + 128 : Nat) : Int) := by omega
      rw [e2]; simp

theorem impl_Var_f (n : Int) (k : Nat) (hk : 8 < k) : impl_Var.f k n = some (strOfNums (varM n)) := by
  unfold impl_Var.f varM
  rw [impl_from_run]; simp only [Option.bind_some, decide_eq_true_eq]
  by_cases h : 0 ≤ n ∧ n ≤ 562949953421311
  · rw [if_pos h, if_pos h]
    have := impl_Var_run 6 k n.toNat [] (by omega) (by omega) (by simp) (by omega)
    rw [show ((n.toNat : Nat) : Int) = n by omega] at this
    rw [this]; rfl
  · rw [if_neg h, if_neg h]; rfl

/-! zigzag -/
theorem spec_ZigZag_run (n : Int) : spec_ZigZag.f n = some (zigM n) := by
  unfold spec_ZigZag.f
  rw [spec_l1In_run]; simp only [Option.bind_some, zigM, decide_eq_true_eq]
  by_cases h : -140737488355328 ≤ n ∧ n ≤ 140737488355328
  · rw [if_pos h, if_pos h]
    by_cases h0 : n < 0
    · rw [if_pos h0, if_pos h0, w64 (n := (-2) * n) (by omega) (by omega), w64 (by omega) (by omega)]
    · rw [if_neg h0, if_neg h0, w64 (by omega) (by omega)]
  · rw [if_neg h, if_neg h]

theorem impl_ZigZag_run (n : Int) : impl_ZigZag.f n = some (zigM n) := by
  unfold impl_ZigZag.f
  rw [impl_from_run, impl_from_run]; simp only [Option.bind_some, zigM, decide_eq_true_eq]
  by_cases h : 0 ≤ n ∧ n ≤ 140737488355328
  · rw [if_pos h, if_pos (by omega), if_neg (by omega), w64 (by omega) (by omega)]
  · rw [if_neg h]
    by_cases h2 : -140737488355328 ≤ n ∧ n ≤ -1
    · rw [if_pos h2, if_pos (by omega), if_pos (by omega), w64 (n := (-2) * n) (by omega) (by omega), w64 (by omega) (by omega)]
    · rw [if_neg h2, if_neg (by omega)]

/-! ShowValues -/
theorem spec_l7Values_run : ∀ (b a : List Int) (k : Nat), a.length + b.length ≤ 1048576 → b.length < k → spec_l7Values.l0 k (a ++ b) (a.length : Int) = some (inV b) := by
  intro b
  induction b with
  | nil =>
    intro a k h0 hk
    obtain ⟨q, rfl⟩ : ∃ m, k = m + 1 := ⟨k - 1, by omega⟩
    simp only [spec_l7Values.l0]; rw [if_neg (by simp)]; rfl
  | cons x b ih =>
    intro a k h0 hk
    simp only [List.length_cons] at h0 hk
    obtain ⟨q, rfl⟩ : ∃ m, k = m + 1 := ⟨k - 1, by omega⟩
    have f := ih (a ++ [x]) q (by simp; omega) (by omega)
    rw [List.append_assoc, List.singleton_append, show (((a ++ [x]).length : Nat) : Int) = (a.length : Int) + 1 by simp] at f
    simp only [spec_l7Values.l0]
    rw [if_pos (by simp; omega), if_pos (by omega), rd_at _ _ _ _ rfl, spec_l1In_run, w64 (n := (a.length : Int) + 1) (by omega) (by omega), f]
    simp only [Option.bind_some, decide_eq_true_eq, inV, List.all_cons]
    split
    · rename_i h; rw [decide_eq_true h, Bool.true_and]
    · rename_i h; rw [decide_eq_false h, Bool.false_and]
theorem inV_cons {x : Int} {b : List Int} (h : inV (x :: b) = true) : (-1099511627776 ≤ x ∧ x ≤ 1099511627776) ∧ inV b = true := by
  simp only [inV, List.all_cons, Bool.and_eq_true, decide_eq_true_eq] at h
  exact h
theorem spec_ShowValues_run : ∀ (b a : List Int) (k : Nat) (s : List Int) (last : Int), a.length + b.length ≤ 1048576 → s.length ≤ 7 * a.length → -1099511627776 ≤ last → last ≤ 1099511627776 → inV b = true → b.length + 10 < k →
    spec_ShowValues.l0 k (a ++ b) (strOfNums s) last (a.length : Int) = some (strOfNums (s ++ valM last b)) := by
  intro b
  induction b with
  | nil =>
    intro a k s last h0 hs l0 l1 hv hk
    obtain ⟨q, rfl⟩ : ∃ m, k = m + 1 := ⟨k - 1, by omega⟩
    simp only [spec_ShowValues.l0]; rw [if_neg (by simp)]; simp [valM]
  | cons x b ih =>
    intro a k s last h0 hs l0 l1 hv hk
    simp only [List.length_cons] at h0 hk
    obtain ⟨⟨x0, x1⟩, hv2⟩ := inV_cons hv
    obtain ⟨q, rfl⟩ : ∃ m, k = m + 1 := ⟨k - 1, by omega⟩
    have lv := varM_length (zigM (x - last))
    have f := ih (a ++ [x]) q (s ++ varM (zigM (x - last))) x (by simp; omega) (by simp; omega) x0 x1 hv2 (by omega)
    rw [List.append_assoc, List.singleton_append, show (((a ++ [x]).length : Nat) : Int) = (a.length : Int) + 1 by simp] at f
    simp only [spec_ShowValues.l0]
    rw [if_pos (by simp; omega), if_pos (by omega), rd_at _ _ _ _ rfl, w64 (n := x - last) (by omega) (by omega), spec_ZigZag_run]
    simp only [Option.bind_some]
    rw [spec_Var_f _ _ (by omega)]
    simp only [Option.bind_some]
    rw [if_pos (by rw [size_strOfNums, size_strOfNums]; omega), w64 (n := (a.length : Int) + 1) (by omega) (by omega), strOfNums_append, f, valM, List.append_assoc]
theorem spec_ShowValues_f (l : List Int) (hl : l.length ≤ 1048576) (k : Nat) (hk : 1048600 < k) : spec_ShowValues.f k l = some (strOfNums (showValM l)) := by
  unfold spec_ShowValues.f spec_l7Values.f showValM
  rw [spec_l1In_run]
  simp only [Option.bind_some, decide_eq_true_eq]
  by_cases h : 1 ≤ (l.length : Int) ∧ (l.length : Int) ≤ 60
  · have e := spec_l7Values_run l [] k (by simp; omega) (by omega)
    simp only [List.nil_append, List.length_nil] at e
    rw [if_pos h, show (0 : Int) = ((0 : Nat) : Int) from rfl, e]
    simp only [Option.bind_some]
    by_cases hv : inV l = true
    · have f := spec_ShowValues_run l [] k [] 0 (by simp; omega) (by simp) (by omega) (by omega) hv (by omega)
      simp only [List.nil_append, List.length_nil] at f
      rw [if_pos hv, if_pos ⟨h.1, h.2, hv⟩]; exact f
    · rw [if_neg hv, if_neg (fun g => hv g.2.2)]; rfl
  · rw [if_neg h, if_neg (fun g => h ⟨g.1, g.2.1⟩)]; rfl

theorem impl_zig_f (n : Int) (k : Nat) (hk : 8 < k) : impl_zig.f k n = some (strOfNums (varM (zigM n))) := by
  unfold impl_zig.f
  rw [impl_ZigZag_run]; simp only [Option.bind_some]; rw [impl_Var_f _ _ hk]; rfl
theorem inV_consI {x : Int} {b : List Int} : inV (x :: b) = (decide (-1099511627776 ≤ x ∧ x ≤ 1099511627776) && inV b) := rfl
theorem impl_ShowValues_run : ∀ (b a : List Int) (k : Nat) (s : List Int) (last : Int), a.length + b.length ≤ 1048576 → s.length ≤ 7 * a.length → -1099511627776 ≤ last → last ≤ 1099511627776 → b.length + 10 < k →
    impl_ShowValues.l0 k (a ++ b) (strOfNums s) last (a ++ b) ((a ++ b).length : Int) (a.length : Int) = some (if 1 ≤ ((a ++ b).length : Int) ∧ ((a ++ b).length : Int) ≤ 60 ∧ inV b = true then strOfNums (s ++ valM last b) else ⟨#[]⟩) := by
  intro b
  induction b with
  | nil =>
    intro a k s last h0 hs l0 l1 hk
    obtain ⟨q, rfl⟩ : ∃ m, k = m + 1 := ⟨k - 1, by omega⟩
    simp only [impl_ShowValues.l0]; rw [if_neg (by simp), impl_from_run]
    simp only [Option.bind_some, decide_eq_true_eq, valM, List.append_nil]
    by_cases h : 1 ≤ (a.length : Int) ∧ (a.length : Int) ≤ 60
    · rw [if_pos h, if_pos ⟨h.1, h.2, rfl⟩]
    · rw [if_neg h, if_neg (fun g => h ⟨g.1, g.2.1⟩)]
  | cons x b ih =>
    intro a k s last h0 hs l0 l1 hk
    simp only [List.length_cons] at h0 hk
    obtain ⟨q, rfl⟩ : ∃ m, k = m + 1 := ⟨k - 1, by omega⟩
    have lv := varM_length (zigM (x - last))
    simp only [impl_ShowValues.l0]
    rw [if_pos (by simp; omega), if_pos (by omega), if_pos (by simp; omega), rd_at _ _ _ _ rfl, impl_from_run]
    simp only [Option.bind_some, decide_eq_true_eq]
    by_cases hx : -1099511627776 ≤ x ∧ x ≤ 1099511627776
    · have f := ih (a ++ [x]) q (s ++ varM (zigM (x - last))) x (by simp; omega) (by simp; omega) hx.1 hx.2 (by omega)
      rw [List.append_assoc, List.singleton_append, show (((a ++ [x]).length : Nat) : Int) = (a.length : Int) + 1 by simp] at f
      rw [if_pos hx, w64 (n := x - last) (by omega) (by omega), impl_zig_f _ _ (by omega)]
      simp only [Option.bind_some]
      rw [if_pos (by rw [size_strOfNums, size_strOfNums]; omega), w64 (n := (a.length : Int) + 1) (by omega) (by omega), strOfNums_append, f, valM, List.append_assoc, inV_consI, decide_eq_true hx, Bool.true_and]
    · rw [if_neg hx, inV_consI, decide_eq_false hx, Bool.false_and, if_neg (by simp)]
theorem impl_ShowValues_f (l : List Int) (hl : l.length ≤ 1048576) (k : Nat) (hk : 1048600 < k) : impl_ShowValues.f k l = some (strOfNums (showValM l)) := by
  unfold impl_ShowValues.f showValM
  have f := impl_ShowValues_run l [] k [] 0 (by simp; omega) (by simp) (by omega) (by omega) (by omega)
  simp only [List.nil_append, List.length_nil] at f
  refine Eq.trans f ?_
  split <;> rfl

theorem FnExactShowValues : laws_FnExactShowValues.Pure := by
  intro l h0 h1 h2
  unfold laws_FnExactShowValues.f
  by_cases hb : (l.length : Int) > 1048576
  · exact ⟨0, by rw [if_pos hb]⟩
  · refine ⟨1048700, ?_⟩
    have hl : l.length ≤ 1048576 := by omega
    rw [if_neg hb, laws_toIntS_f l hl _ (by omega)]
    simp only [Option.bind_some]
    rw [spec_ShowValues_f l hl _ (by omega), impl_ShowValues_f l hl _ (by omega)]
    simp only [Option.bind_some, if_true]
    rw [laws_eqIntS_f l (by omega) _ (by omega)]; rfl

end Go.Proofs.Ytfmddjbekophnaa.Pure
