/- FnExactShowTimes: for every slice of numbers the program's ShowTimes returns what the reference's returns. -/
import Derived.Test.YtfmddjbekophnaaPFnExactShowTimesx3
import Derived.Test.YtfmddjbekophnaaPFnExactShowTimesx3
import Derived.Test.YtfmddjbekophnaaPFnExactShowTimesx3
import Derived.Test.YtfmddjbekophnaaBase
import Derived.Test.YtfmddjbekophnaaNum
import Derived.Test.YtfmddjbekophnaaNumBits
namespace Go.Proofs.Ytfmddjbekophnaa.Pure
open Go.RowKit Go.Proofs.Ytfmddjbekophnaa.PFnExactShowTimes Go.Proofs.YtfmddjbekophnaaW.PrintWords Go.Proofs.YtfmddjbekophnaaW.PrintLast Go.Proofs.YtfmddjbekophnaaW.PrintMore Go.Proofs.Ytfmddjbekophnaa.Base
set_option linter.unusedVariables false
set_option linter.unusedSimpArgs false

/-! ranges -/
theorem spec_l1In_run (a b c : Int) : spec_l1In.f a b c = some (decide (b ≤ a ∧ a ≤ c)) := by
  unfold spec_l1In.f
  by_cases h : a ≥ b
  · rw [if_pos h]; congr 1; simp [show b ≤ a from h]
  · rw [if_neg h]; congr 1; simp; omega

theorem impl_from_run (a b c : Int) : impl_from.f a b c = some (decide (b ≤ a ∧ a ≤ c)) := by
  unfold impl_from.f
  by_cases h : a ≥ b
  · rw [if_pos h]; congr 1; simp [show b ≤ a from h]
  · rw [if_neg h]; congr 1; simp; omega

/-! slices of numbers -/
theorem rd_at (a b : List Int) (x i : Int) (h : i = a.length) : rd (a ++ x :: b) i = x := by
  subst h; simp [rd, List.getD]
theorem set_at (a b : List Int) (x y : Int) : (a ++ x :: b).set ((a.length : Int)).toNat y = a ++ y :: b := by
  rw [show ((a.length : Int)).toNat = a.length by omega, List.set_append_right _ _ (Nat.le_refl _), Nat.sub_self, List.set_cons_zero]
theorem laws_toIntS_run : ∀ (b a : List Int) (k : Nat), a.length + b.length ≤ 1048576 → b.length < k →
    laws_toIntS.l0 k (a ++ b) (a ++ List.replicate b.length 0) (a.length : Int) = some (a ++ b) := by
  intro b
  induction b with
  | nil =>
    intro a k h0 hk
    obtain ⟨q, rfl⟩ : ∃ m, k = m + 1 := ⟨k - 1, by omega⟩
    simp only [laws_toIntS.l0]
    rw [if_neg (by simp)]; simp
  | cons x b ih =>
    intro a k h0 hk
    simp only [List.length_cons] at h0 hk
    obtain ⟨q, rfl⟩ : ∃ m, k = m + 1 := ⟨k - 1, by omega⟩
    simp only [laws_toIntS.l0]
    rw [if_pos (by simp; omega), if_pos (by omega), if_pos (by simp; omega), rd_at _ _ _ _ rfl, List.length_cons, List.replicate_succ, set_at, w64 (n := (a.length : Int) + 1) (by omega) (by omega)]
    have f := ih (a ++ [x]) q (by simp; omega) (by omega)
    rw [List.append_assoc, List.singleton_append, show (((a ++ [x]).length : Nat) : Int) = (a.length : Int) + 1 by simp, List.append_assoc, List.singleton_append] at f
    exact f
theorem laws_toIntS_f (l : List Int) (hl : l.length ≤ 1048576) (k : Nat) (hk : l.length < k) : laws_toIntS.f k l = some l := by
  unfold laws_toIntS.f
  rw [if_pos (by omega), show ((l.length : Int)).toNat = l.length by omega, if_pos (by omega)]
  have := laws_toIntS_run l [] k (by simp; omega) hk
  simpa using this
theorem laws_eqIntS_run (l : List Int) (hl : l.length ≤ 1099511627776) : ∀ (d k : Nat) (i : Int), 0 ≤ i → i + d = l.length → d < k → laws_eqIntS.l0 k l l i = some true := by
  intro d
  induction d with
  | zero =>
    intro k i h0 h1 hk
    obtain ⟨q, rfl⟩ : ∃ m, k = m + 1 := ⟨k - 1, by omega⟩
    simp only [laws_eqIntS.l0]; rw [if_neg (by omega)]
  | succ d ih =>
    intro k i h0 h1 hk
    obtain ⟨q, rfl⟩ : ∃ m, k = m + 1 := ⟨k - 1, by omega⟩
    simp only [laws_eqIntS.l0]
    rw [if_pos (by omega), if_pos h0, if_pos (by omega), if_pos trivial, w64 (n := i + 1) (by omega) (by omega), ih q (i + 1) (by omega) (by omega) (by omega)]
theorem laws_eqIntS_f (l : List Int) (hl : l.length ≤ 1099511627776) (k : Nat) (hk : l.length < k) : laws_eqIntS.f k l l = some true := by
  unfold laws_eqIntS.f; rw [if_pos rfl]; exact laws_eqIntS_run l hl l.length k 0 (by omega) (by omega) hk

/-! Var -/
theorem spec_Var_run : ∀ (d k n : Nat) (xs : List Int), n < 128 ^ (d + 1) → d ≤ 7 → xs.length + d < 100 → d < k →
    spec_Var.l0 k (n : Int) xs = some (strOfNums (xs ++ varN n)) := by
  intro d
  induction d with
  | zero =>
    intro k n xs h0 h7 h1 hk
    obtain ⟨k, rfl⟩ : ∃ m, k = m + 1 := ⟨k - 1, by omega⟩
    simp only [spec_Var.l0]
    rw [if_neg (by omega), if_pos (by omega), varN_lt (by omega), show (n : Int) % 256 = n by omega]
  | succ d ih =>
    intro k n xs h0 h7 h1 hk
    obtain ⟨k, rfl⟩ : ∃ m, k = m + 1 := ⟨k - 1, by omega⟩
    simp only [spec_Var.l0]
    have hb : n < 128 ^ 9 := Nat.lt_of_lt_of_le h0 (Nat.pow_le_pow_right (by omega) (by omega))
    by_cases h : n < 128
    · rw [if_neg (by omega), if_pos (by omega), varN_lt h, show (n : Int) % 256 = n by omega]
    · rw [if_pos (by omega), if_pos (by omega), varN_ge h, tdiv_nn (by omega), tmod_nn (by omega), w64 (n := (n : Int) / 128) (by omega) (by omega), w64 (n := 128 + (n : Int) % 128) (by omega) (by omega)]
      have e : (n : Int) / 128 = ((n / 128 : Nat) : Int) := by omega
      rw [e, ih k (n / 128) _ (by rw [pow128] at h0; omega) (by omega) (by simp; omega) (by omega)]
      have e2 : (128 + (n : Int) % 128) % 256 = ((n % 128 + 128 : Nat) : Int) := by omega
      rw [e2]; simp

theorem spec_Var_f (n : Int) (k : Nat) (hk : 8 < k) : spec_Var.f k n = some (strOfNums (varM n)) := by
  unfold spec_Var.f varM
  rw [spec_l1In_run]; simp only [Option.bind_some, decide_eq_true_eq]
  by_cases h : 0 ≤ n ∧ n ≤ 562949953421311
  · rw [if_pos h, if_pos h]
    have := spec_Var_run 6 k n.toNat [] (by omega) (by omega) (by simp) (by omega)
    rw [show ((n.toNat : Nat) : Int) = n by omega] at this
    rw [this]; rfl
  · rw [if_neg h, if_neg h]; rfl

theorem impl_Var_run : ∀ (d k n : Nat) (xs : List Int), n < 128 ^ (d + 1) → d ≤ 7 → xs.length + d < 100 → d < k →
    impl_Var.l0 k (n : Int) xs = some (strOfNums (xs ++ varN n)) := by
  intro d
  induction d with
  | zero =>
    intro k n xs h0 h7 h1 hk
    obtain ⟨k, rfl⟩ : ∃ m, k = m + 1 := ⟨k - 1, by omega⟩
    simp only [impl_Var.l0]
    rw [if_neg (by omega), if_pos (by omega), varN_lt (by omega), show (n : Int) % 256 = n by omega]
  | succ d ih =>
    intro k n xs h0 h7 h1 hk
    obtain ⟨k, rfl⟩ : ∃ m, k = m + 1 := ⟨k - 1, by omega⟩
    simp only [impl_Var.l0]
    have hb : n < 128 ^ 9 := Nat.lt_of_lt_of_le h0 (Nat.pow_le_pow_right (by omega) (by omega))
    by_cases h : n < 128
    · rw [if_neg (by omega), if_pos (by omega), varN_lt h, show (n : Int) % 256 = n by omega]
    · rw [if_pos (by omega), if_pos (by omega), varN_ge h, tdiv_nn (by omega), tmod_nn (by omega), w64 (n := (n : Int) / 128) (by omega) (by omega), w64 (n := (n : Int) % 128 + 128) (by omega) (by omega)]
      have e : (n : Int) / 128 = ((n / 128 : Nat) : Int) := by omega
      rw [e, ih k (n / 128) _ (by rw [pow128] at h0; omega) (by omega) (by simp; omega) (by omega)]
      have e2 : ((n : Int) % 128 + 128) % 256 = ((n % 128 + 128 : Nat) : Int) := by omega
      rw [e2]; simp

theorem impl_Var_f (n : Int) (k : Nat) (hk : 8 < k) : impl_Var.f k n = some (strOfNums (varM n)) := by
  unfold impl_Var.f varM
  rw [impl_from_run]; simp only [Option.bind_some, decide_eq_true_eq]
  by_cases h : 0 ≤ n ∧ n ≤ 562949953421311
  · rw [if_pos h, if_pos h]
    have := impl_Var_run 6 k n.toNat [] (by omega) (by omega) (by simp) (by omega)
    rw [show ((n.toNat : Nat) : Int) = n by omega] at this
    rw [this]; rfl
  · rw [if_neg h, if_neg h]; rfl

/-! zigzag -/
theorem spec_ZigZag_run (n : Int) : spec_ZigZag.f n = some (zigM n) := by
  unfold spec_ZigZag.f
  rw [spec_l1In_run]; simp only [Option.bind_some, zigM, decide_eq_true_eq]
  by_cases h : -140737488355328 ≤ n ∧ n ≤ 140737488355328
  · rw [if_pos h, if_pos h]
    by_cases h0 : n < 0
    · rw [if_pos h0, if_pos h0, w64 (n := (-2) * n) (by omega) (by omega), w64 (by omega) (by omega)]
    · rw [if_neg h0, if_neg h0, w64 (by omega) (by omega)]
  · rw [if_neg h, if_neg h]

theorem impl_ZigZag_run (n : Int) : impl_ZigZag.f n = some (zigM n) := by
  unfold impl_ZigZag.f
  rw [impl_from_run, impl_from_run]; simp only [Option.bind_some, zigM, decide_eq_true_eq]
  by_cases h : 0 ≤ n ∧ n ≤ 140737488355328
  · rw [if_pos h, if_pos (by omega), if_neg (by omega), w64 (by omega) (by omega)]
  · rw [if_neg h]
    by_cases h2 : -140737488355328 ≤ n ∧ n ≤ -1
    · rw [if_pos h2, if_pos (by omega), if_pos (by omega), w64 (n := (-2) * n) (by omega) (by omega), w64 (by omega) (by omega)]
    · rw [if_neg h2, if_neg (by omega)]

/-! ShowTimes -/
theorem rd_at2 (a b : List Int) (p x i : Int) (h : i = a.length + 1) : rd (a ++ p :: x :: b) i = x := by
  rw [List.append_cons]; exact rd_at _ _ _ _ (by rw [List.length_append]; simp only [List.length_singleton]; omega)
theorem rd_at3 (a b : List Int) (p q x i : Int) (h : i = a.length + 2) : rd (a ++ p :: q :: x :: b) i = x := by
  rw [List.append_cons]; exact rd_at2 _ _ _ _ _ (by simp only [List.length_append, List.length_singleton]; omega)

theorem spec_l7Rise_run : ∀ (b a : List Int) (p : Int) (k : Nat), a.length + 1 + b.length ≤ 1048576 → b.length < k → 0 ≤ p →
    spec_l7Rise.l0 k (a ++ p :: b) ((a.length : Int) + 1) = some (risM p b) := by
  intro b
  induction b with
  | nil =>
    intro a p k h0 hk hp
    obtain ⟨q, rfl⟩ : ∃ m, k = m + 1 := ⟨k - 1, by omega⟩
    simp only [spec_l7Rise.l0]; rw [if_neg (by simp)]; rfl
  | cons x b ih =>
    intro a p k h0 hk hp
    simp only [List.length_cons] at h0 hk
    obtain ⟨q, rfl⟩ : ∃ m, k = m + 1 := ⟨k - 1, by omega⟩
    simp only [spec_l7Rise.l0]
    rw [if_pos (by simp; omega), if_pos (by omega), rd_at2 _ _ _ _ _ rfl, spec_l1In_run, w64 (n := (a.length : Int) + 1 - 1) (by omega) (by omega), rd_at _ _ _ _ (show (a.length : Int) + 1 - 1 = a.length by omega)]
    simp only [Option.bind_some, decide_eq_true_eq, risM]
    by_cases hx : 0 ≤ x ∧ x ≤ 1099511627776
    · rw [if_pos hx, if_pos (by omega), if_pos (by omega), if_pos (by simp; omega)]
      by_cases hp2 : p ≥ x
      · rw [if_pos hp2, decide_eq_false (by omega), Bool.false_and]
      · have f := ih (a ++ [p]) x q (by simp; omega) (by omega) hx.1
        rw [← List.append_cons, show (((a ++ [p]).length : Nat) : Int) = (a.length : Int) + 1 by simp] at f
        rw [if_neg hp2, w64 (n := (a.length : Int) + 1 + 1) (by omega) (by omega), f, decide_eq_true (show p < x ∧ 0 ≤ x ∧ x ≤ 1099511627776 by omega), Bool.true_and]
    · rw [if_neg hx, decide_eq_false (by omega), Bool.false_and]
theorem spec_l7Rise_f (l : List Int) (k : Nat) (hk : 70 < k) : spec_l7Rise.f k l = some (decide (1 ≤ (l.length : Int) ∧ (l.length : Int) ≤ 60) && riseM l) := by
  unfold spec_l7Rise.f
  rw [spec_l1In_run]
  simp only [Option.bind_some, decide_eq_true_eq]
  by_cases h : 1 ≤ (l.length : Int) ∧ (l.length : Int) ≤ 60
  · rw [if_pos h, decide_eq_true h, Bool.true_and]
    cases l with
    | nil => simp at h
    | cons t r =>
      simp only [List.length_cons] at h
      obtain ⟨q, rfl⟩ : ∃ m, k = m + 1 := ⟨k - 1, by omega⟩
      simp only [spec_l7Rise.l0]
      have e0 : rd (t :: r) 0 = t := rfl
      rw [if_pos (by simp only [List.length_cons]; omega), if_pos (by omega), e0, spec_l1In_run]
      simp only [Option.bind_some, decide_eq_true_eq, riseM]
      by_cases ht : 0 ≤ t ∧ t ≤ 1099511627776
      · have f := spec_l7Rise_run r [] t q (by simp; omega) (by omega) ht.1
        simp only [List.nil_append, List.length_nil] at f
        rw [if_pos ht, if_neg (by omega), w64 (by omega) (by omega), decide_eq_true ht, Bool.true_and]
        exact f
      · rw [if_neg ht, decide_eq_false ht, Bool.false_and]
  · rw [if_neg h, decide_eq_false h, Bool.false_and]

theorem risM_cons {p x : Int} {b : List Int} (h : risM p (x :: b) = true) : (p < x ∧ 0 ≤ x ∧ x ≤ 1099511627776) ∧ risM x b = true := by
  simp only [risM, Bool.and_eq_true, decide_eq_true_eq] at h
  exact h
theorem spec_ShowTimes_run2 : ∀ (b a : List Int) (p q : Int) (k : Nat) (s : List Int), a.length + 2 + b.length ≤ 60 → s.length ≤ 7 * (a.length + 2) → 0 ≤ p → p ≤ 1099511627776 → 0 ≤ q → q ≤ 1099511627776 → risM q b = true → b.length + 10 < k →
    spec_ShowTimes.l0 k (a ++ p :: q :: b) (strOfNums s) ((a.length : Int) + 2) = some (strOfNums (s ++ tim2 p q b)) := by
  intro b
  induction b with
  | nil =>
    intro a p q k s h0 hs p0 p1 q0 q1 hv hk
    obtain ⟨f, rfl⟩ : ∃ m, k = m + 1 := ⟨k - 1, by omega⟩
    simp only [spec_ShowTimes.l0]; rw [if_neg (by simp)]; simp [tim2]
  | cons x b ih =>
    intro a p q k s h0 hs p0 p1 q0 q1 hv hk
    simp only [List.length_cons] at h0 hk
    obtain ⟨⟨x0, x1, x2⟩, hv2⟩ := risM_cons hv
    obtain ⟨f, rfl⟩ : ∃ m, k = m + 1 := ⟨k - 1, by omega⟩
    have lv := varM_length (zigM (x - q - (q - p)))
    have g := ih (a ++ [p]) q x f (s ++ varM (zigM (x - q - (q - p)))) (by simp; omega) (by simp; omega) q0 q1 x1 x2 hv2 (by omega)
    rw [← List.append_cons, show (((a ++ [p]).length : Nat) : Int) = (a.length : Int) + 1 by simp] at g
    simp only [spec_ShowTimes.l0]
    rw [if_pos (by simp; omega), if_pos (by omega), w64 (n := (a.length : Int) + 2 - 1) (by omega) (by omega), w64 (n := (a.length : Int) + 2 - 2) (by omega) (by omega), if_pos (by omega), if_pos (by simp; omega), if_neg (by omega), if_pos (by omega), if_pos (by simp; omega), rd_at3 _ _ _ _ _ _ rfl, rd_at2 _ _ _ _ _ (show (a.length : Int) + 2 - 1 = a.length + 1 by omega), rd_at _ _ _ _ (show (a.length : Int) + 2 - 2 = a.length by omega), w64 (n := x - q) (by omega) (by omega), w64 (n := q - p) (by omega) (by omega), w64 (n := x - q - (q - p)) (by omega) (by omega), spec_ZigZag_run]
    simp only [Option.bind_some]
    rw [spec_Var_f _ _ (by omega)]
    simp only [Option.bind_some]
    rw [if_pos (by rw [size_strOfNums, size_strOfNums]; omega), w64 (n := (a.length : Int) + 2 + 1) (by omega) (by omega), strOfNums_append, show (a.length : Int) + 2 + 1 = (a.length : Int) + 1 + 2 by omega, g, tim2, List.append_assoc]
theorem spec_ShowTimes_f (l : List Int) (k : Nat) (hk : 100 < k) : spec_ShowTimes.f k l = some (strOfNums (showTimM l)) := by
  unfold spec_ShowTimes.f showTimM
  rw [spec_l7Rise_f _ _ (by omega)]
  simp only [Option.bind_some]
  by_cases h : 1 ≤ (l.length : Int) ∧ (l.length : Int) ≤ 60
  · rw [decide_eq_true h, Bool.true_and]
    by_cases hr : riseM l = true
    · have hc : 1 ≤ (l.length : Int) ∧ (l.length : Int) ≤ 60 ∧ riseM l = true := ⟨h.1, h.2, hr⟩
      rw [if_pos hr, if_pos (show 0 < (l.length : Int) by omega), if_pos hc]
      cases l with
      | nil => simp at h
      | cons t r =>
        simp only [List.length_cons] at h
        simp only [riseM, Bool.and_eq_true, decide_eq_true_eq] at hr
        have e0 : rd (t :: r) 0 = t := rfl
        have lv := varM_length t
        rw [e0, spec_Var_f _ _ (by omega)]
        simp only [Option.bind_some, timM]
        obtain ⟨f, rfl⟩ : ∃ m, k = m + 1 := ⟨k - 1, by omega⟩
        cases r with
        | nil => simp only [spec_ShowTimes.l0]; rw [if_neg (by simp)]; simp [tim1]
        | cons u r =>
          simp only [List.length_cons] at h
          obtain ⟨⟨u0, u1, u2⟩, hv2⟩ := risM_cons hr.2
          have e1 : rd (t :: u :: r) 1 = u := rfl
          have lu := varM_length (u - t)
          have g := spec_ShowTimes_run2 r [] t u f (varM t ++ varM (u - t)) (by simp; omega) (by simp; omega) hr.1.1 hr.1.2 u1 u2 hv2 (by omega)
          simp only [List.nil_append, List.length_nil] at g
          simp only [spec_ShowTimes.l0]
          rw [if_pos (by simp; omega), if_pos (by omega), w64 (n := 1 - 1) (by omega) (by omega), if_pos (by omega), if_pos (by simp; omega), if_pos trivial, e1, show (1 : Int) - 1 = 0 by omega, e0, w64 (n := u - t) (by omega) (by omega), spec_Var_f _ _ (by omega)]
          simp only [Option.bind_some]
          rw [if_pos (by rw [size_strOfNums, size_strOfNums]; omega), w64 (by omega) (by omega), strOfNums_append]
          refine Eq.trans g ?_
          simp [tim1]
    · rw [if_neg hr, if_neg (fun g => hr g.2.2)]; rfl
  · rw [decide_eq_false h, Bool.false_and, if_neg (by decide), if_neg (fun g => h ⟨g.1, g.2.1⟩)]; rfl

theorem impl_zig_ft (n : Int) (k : Nat) (hk : 8 < k) : impl_zig.f k n = some (strOfNums (varM (zigM n))) := by
  unfold impl_zig.f
  rw [impl_ZigZag_run]; simp only [Option.bind_some]; rw [impl_Var_f _ _ hk]; rfl
theorem impl_ShowTimes_end (l : List Int) (k : Nat) (s : ByteArray) : impl_ShowTimes.l0 (k + 1) l s l (l.length : Int) (l.length : Int) = some (if 1 ≤ (l.length : Int) ∧ (l.length : Int) ≤ 60 then s else ⟨#[]⟩) := by
  simp only [impl_ShowTimes.l0]; rw [if_neg (by omega), impl_from_run]
  simp only [Option.bind_some, decide_eq_true_eq]
  split <;> rfl
theorem impl_ShowTimes_run2 : ∀ (b a : List Int) (p q : Int) (k : Nat) (s : List Int), a.length + 2 + b.length ≤ 1048576 → s.length ≤ 7 * (a.length + 2) → 0 ≤ p → p ≤ 1099511627776 → 0 ≤ q → q ≤ 1099511627776 → 2 * b.length + 10 < k →
    impl_ShowTimes.l0 k (a ++ p :: q :: b) (strOfNums s) (a ++ p :: q :: b) ((a ++ p :: q :: b).length : Int) ((a.length : Int) + 2) = some (if 1 ≤ ((a ++ p :: q :: b).length : Int) ∧ ((a ++ p :: q :: b).length : Int) ≤ 60 ∧ risM q b = true then strOfNums (s ++ tim2 p q b) else ⟨#[]⟩) := by
  intro b
  induction b with
  | nil =>
    intro a p q k s h0 hs p0 p1 q0 q1 hk
    obtain ⟨f, rfl⟩ : ∃ m, k = m + 1 := ⟨k - 1, by omega⟩
    have e : (a.length : Int) + 2 = ((a ++ [p, q]).length : Int) := by simp
    rw [e, impl_ShowTimes_end]
    simp only [risM, and_true, tim2, List.append_nil]
  | cons x b ih =>
    intro a p q k s h0 hs p0 p1 q0 q1 hk
    simp only [List.length_cons] at h0 hk
    obtain ⟨f, rfl⟩ : ∃ m, k = m + 2 := ⟨k - 2, by omega⟩
    obtain ⟨g', hg'⟩ : ∃ m, f + 1 = m := ⟨_, rfl⟩
    rw [show f + 2 = g' + 1 by omega]
    have lv := varM_length (zigM (x - q - (q - p)))
    simp only [impl_ShowTimes.l0]
    rw [if_pos (by simp; omega), if_pos (by omega), if_pos (by simp; omega), rd_at3 _ _ _ _ _ _ rfl, impl_from_run, ← hg']
    simp only [Option.bind_some, decide_eq_true_eq]
    by_cases hx : 0 ≤ x ∧ x ≤ 1099511627776
    · rw [if_pos hx, if_pos (show (a.length : Int) + 2 > 0 by omega), w64 (n := (a.length : Int) + 2 - 1) (by omega) (by omega), if_pos (by omega), if_pos (by simp; omega), rd_at2 _ _ _ _ _ (show (a.length : Int) + 2 - 1 = a.length + 1 by omega)]
      simp only [impl_ShowTimes.j1]
      by_cases hq : q ≥ x
      · rw [if_pos (by simpa using hq), if_neg (fun g => by have := g.2.2; simp only [riseM, risM, Bool.and_eq_true, decide_eq_true_eq] at this; omega)]
      · have g := ih (a ++ [p]) q x f (s ++ varM (zigM (x - q - (q - p)))) (by simp; omega) (by simp; omega) q0 q1 hx.1 hx.2 (by omega)
        rw [← List.append_cons, show (((a ++ [p]).length : Nat) : Int) = (a.length : Int) + 1 by simp] at g
        rw [if_neg (by simpa using hq), if_neg (by omega), if_neg (by omega), w64 (n := (a.length : Int) + 2 - 1) (by omega) (by omega), w64 (n := (a.length : Int) + 2 - 2) (by omega) (by omega), if_pos (by omega), if_pos (by simp; omega), if_pos (by omega), if_pos (by simp; omega), rd_at2 _ _ _ _ _ (show (a.length : Int) + 2 - 1 = a.length + 1 by omega), rd_at _ _ _ _ (show (a.length : Int) + 2 - 2 = a.length by omega), w64 (n := x - q) (by omega) (by omega), w64 (n := q - p) (by omega) (by omega), w64 (n := x - q - (q - p)) (by omega) (by omega), impl_zig_ft _ _ (by omega)]
        simp only [Option.bind_some]
        rw [if_pos (by rw [size_strOfNums, size_strOfNums]; omega), w64 (n := (a.length : Int) + 2 + 1) (by omega) (by omega), strOfNums_append, show (a.length : Int) + 2 + 1 = (a.length : Int) + 1 + 2 by omega, g, tim2, List.append_assoc]
        have hT : risM q (x :: b) = risM x b := by simp only [risM, decide_eq_true (show q < x ∧ 0 ≤ x ∧ x ≤ 1099511627776 by omega), Bool.true_and]
        simp only [hT]
    · rw [if_neg hx]
      simp only [impl_ShowTimes.j1]
      rw [if_pos trivial, if_neg (fun g => by have := g.2.2; simp only [riseM, risM, Bool.and_eq_true, decide_eq_true_eq] at this; omega)]
theorem impl_ShowTimes_f (l : List Int) (hl : l.length ≤ 1048576) (k : Nat) (hk : 2097200 < k) : impl_ShowTimes.f k l = some (strOfNums (showTimM l)) := by
  unfold impl_ShowTimes.f showTimM
  cases l with
  | nil =>
    obtain ⟨f, rfl⟩ : ∃ m, k = m + 1 := ⟨k - 1, by omega⟩
    rw [show (0 : Int) = (([] : List Int).length : Int) from rfl, impl_ShowTimes_end]; rfl
  | cons t r =>
    have e0 : rd (t :: r) 0 = t := rfl
    have lt := varM_length t
    obtain ⟨f, rfl⟩ : ∃ m, k = m + 2 := ⟨k - 2, by omega⟩
    obtain ⟨g', hg'⟩ : ∃ m, f + 1 = m := ⟨_, rfl⟩
    rw [show f + 2 = g' + 1 by omega]
    simp only [impl_ShowTimes.l0]
    simp only [List.length_cons] at hl
    rw [if_pos (by simp only [List.length_cons]; omega), if_pos (by omega), if_pos (by simp only [List.length_cons]; omega), e0, impl_from_run, ← hg']
    simp only [Option.bind_some, decide_eq_true_eq]
    by_cases ht : 0 ≤ t ∧ t ≤ 1099511627776
    · rw [if_pos ht, if_neg (show ¬ (0 : Int) > 0 by omega)]
      have hT : riseM (t :: r) = risM t r := by simp only [riseM, decide_eq_true ht, Bool.true_and]
      simp only [hT]
      simp only [impl_ShowTimes.j1]
      rw [if_neg (by decide), if_pos trivial, impl_Var_f _ _ (by omega)]
      simp only [Option.bind_some]
      rw [if_pos (by rw [size_strOfNums]; show 0 + _ ≤ _; omega), w64 (by omega) (by omega), show (⟨#[]⟩ : ByteArray) ++ strOfNums (varM t) = strOfNums (varM t) from by rw [show (⟨#[]⟩ : ByteArray) = strOfNums [] from rfl, strOfNums_append]; rfl, show (0 : Int) + 1 = 1 by omega]
      cases r with
      | nil =>
        obtain ⟨f, rfl⟩ : ∃ m, f = m + 1 := ⟨f - 1, by omega⟩
        have := impl_ShowTimes_end [t] f (strOfNums (varM t))
        refine Eq.trans this ?_
        rw [if_pos (by simp), if_pos (by simp [risM])]; simp [timM, tim1]
      | cons u r =>
        have e1 : rd (t :: u :: r) 1 = u := rfl
        have lu := varM_length (u - t)
        simp only [List.length_cons] at hl
        obtain ⟨f2, rfl⟩ : ∃ m, f = m + 2 := ⟨f - 2, by omega⟩
        obtain ⟨g2, hg2⟩ : ∃ m, f2 + 1 = m := ⟨_, rfl⟩
        rw [show f2 + 2 = g2 + 1 by omega]
        simp only [impl_ShowTimes.l0]
        rw [if_pos (by simp; omega), if_pos (by omega), if_pos (by simp; omega), e1, impl_from_run, ← hg2]
        simp only [Option.bind_some, decide_eq_true_eq]
        by_cases hu : 0 ≤ u ∧ u ≤ 1099511627776
        · rw [if_pos hu, if_pos (by omega), w64 (n := 1 - 1) (by omega) (by omega), if_pos (by omega), if_pos (by simp; omega), show (1 : Int) - 1 = 0 by omega, e0]
          simp only [impl_ShowTimes.j1]
          by_cases hq : t ≥ u
          · rw [if_pos (by simpa using hq), if_neg (fun g => by have := g.2.2; simp only [riseM, risM, Bool.and_eq_true, decide_eq_true_eq] at this; omega)]; rfl
          · have g := impl_ShowTimes_run2 r [] t u f2 (varM t ++ varM (u - t)) (by simp; omega) (by simp; omega) ht.1 ht.2 hu.1 hu.2 (by omega)
            simp only [List.nil_append, List.length_nil] at g
            rw [if_neg (by simpa using hq), if_neg (by omega), if_pos trivial, if_pos (by simp; omega), e0, w64 (n := u - t) (by omega) (by omega), impl_Var_f _ _ (by omega)]
            simp only [Option.bind_some]
            rw [if_pos (by rw [size_strOfNums, size_strOfNums]; omega), w64 (n := 1 + 1) (by omega) (by omega), strOfNums_append]
            have hT2 : risM t (u :: r) = risM u r := by simp only [risM, decide_eq_true (show t < u ∧ 0 ≤ u ∧ u ≤ 1099511627776 by omega), Bool.true_and]
            simp only [hT2]
            refine Eq.trans g ?_
            simp only [timM, tim1, List.append_assoc]
            split <;> rfl
        · rw [if_neg hu]
          simp only [impl_ShowTimes.j1]
          rw [if_pos trivial, if_neg (fun g => by have := g.2.2; simp only [riseM, risM, Bool.and_eq_true, decide_eq_true_eq] at this; omega)]; rfl
    · rw [if_neg ht]
      simp only [impl_ShowTimes.j1]
      rw [if_pos trivial, if_neg (fun g => by have := g.2.2; simp only [riseM, risM, Bool.and_eq_true, decide_eq_true_eq] at this; omega)]; rfl

theorem FnExactShowTimes : laws_FnExactShowTimes.Pure := by
  intro l h0 h1 h2
  unfold laws_FnExactShowTimes.f
  by_cases hb : (l.length : Int) > 1048576
  · exact ⟨0, by rw [if_pos hb]⟩
  · refine ⟨2097300, ?_⟩
    have hl : l.length ≤ 1048576 := by omega
    rw [if_neg hb, laws_toIntS_f l hl _ (by omega)]
    simp only [Option.bind_some]
    rw [spec_ShowTimes_f l _ (by omega), impl_ShowTimes_f l hl _ (by omega)]
    simp only [Option.bind_some, if_true]
    rw [laws_eqIntS_f l (by omega) _ (by omega)]; rfl

end Go.Proofs.Ytfmddjbekophnaa.Pure
