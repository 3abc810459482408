/- The points of a stretch are those of the reference. -/
import Derived.Test.YtfmddjbekophnaaPFnExactSlicex1
import Derived.Test.YtfmddjbekophnaaPFnExactSlicex2
import Derived.Test.YtfmddjbekophnaaPFnExactSlicex3
import Derived.Test.YtfmddjbekophnaaPFnExactSlicex4
import Derived.Test.YtfmddjbekophnaaBase
namespace Go.Proofs.Ytfmddjbekophnaa.Pure
open Go.RowKit Go.Proofs.Ytfmddjbekophnaa.PFnExactSlice Go.Proofs.YtfmddjbekophnaaW.PrintWords Go.Proofs.YtfmddjbekophnaaW.PrintLast Go.Proofs.YtfmddjbekophnaaW.PrintMore Go.Proofs.Ytfmddjbekophnaa.Base
set_option linter.unusedVariables false
set_option linter.unusedSimpArgs false

/-! ranges -/
theorem spec_l1In_run (a b c : Int) : spec_l1In.f a b c = some (decide (b ≤ a ∧ a ≤ c)) := by
  unfold spec_l1In.f
  by_cases h : a ≥ b
  · rw [if_pos h]; congr 1; simp [show b ≤ a from h]
  · rw [if_neg h]; congr 1; simp; omega

theorem impl_from_run (a b c : Int) : impl_from.f a b c = some (decide (b ≤ a ∧ a ≤ c)) := by
  unfold impl_from.f
  by_cases h : a ≥ b
  · rw [if_pos h]; congr 1; simp [show b ≤ a from h]
  · rw [if_neg h]; congr 1; simp; omega

theorem rdA94 (a : List S94) (x : S94) (b : List S94) : rd_T94 (a ++ x :: b) (a.length : Int) = x := by simp [rd_T94, List.getD]
theorem setA94 (a : List S94) (x y : S94) (b : List S94) : (a ++ x :: b).set ((a.length : Int)).toNat y = a ++ y :: b := by
  rw [show ((a.length : Int)).toNat = a.length by omega, List.set_append_right _ _ (Nat.le_refl _), Nat.sub_self, List.set_cons_zero]
theorem rdA92 (a : List S92) (x : S92) (b : List S92) : rd_T92 (a ++ x :: b) (a.length : Int) = x := by simp [rd_T92, List.getD]
theorem setA92 (a : List S92) (x y : S92) (b : List S92) : (a ++ x :: b).set ((a.length : Int)).toNat y = a ++ y :: b := by
  rw [show ((a.length : Int)).toNat = a.length by omega, List.set_append_right _ _ (Nat.le_refl _), Nat.sub_self, List.set_cons_zero]
def cvPoint (x : S94) : S92 := ⟨x.f0, x.f1⟩
theorem laws_toPointS_run : ∀ (b a : List S94) (k : Nat), a.length + b.length ≤ 1048576 → b.length < k →
    laws_toPointS.l0 k (a ++ b) (a.map cvPoint ++ List.replicate b.length z92) (a.length : Int) = some ((a ++ b).map cvPoint) := by
  intro b
  induction b with
  | nil =>
    intro a k h0 hk
    obtain ⟨q, rfl⟩ : ∃ m, k = m + 1 := ⟨k - 1, by omega⟩
    simp only [laws_toPointS.l0]
    rw [if_neg (by simp)]; simp
  | cons x b ih =>
    intro a k h0 hk
    simp only [List.length_cons] at h0 hk
    obtain ⟨q, rfl⟩ : ∃ m, k = m + 1 := ⟨k - 1, by omega⟩
    simp only [laws_toPointS.l0]
    rw [if_pos (by simp; omega), if_pos (by omega), rdA94]
    simp only [laws_toPoint.f, Option.bind_some]
    rw [if_pos (by simp; omega), w64 (n := (a.length : Int) + 1) (by omega) (by omega), List.length_cons, List.replicate_succ]
    have hs := setA92 (a.map cvPoint) z92 (cvPoint x) (List.replicate b.length z92)
    rw [List.length_map] at hs
    rw [show (⟨x.f0, x.f1⟩ : S92) = cvPoint x from rfl, hs]
    have f := ih (a ++ [x]) q (by simp; omega) (by omega)
    rw [List.append_assoc, List.singleton_append, show (((a ++ [x]).length : Nat) : Int) = (a.length : Int) + 1 by simp, List.map_append, List.map_singleton, List.append_assoc, List.singleton_append] at f
    exact f
theorem laws_toPointS_f (l : List S94) (hl : l.length ≤ 1048576) (k : Nat) (hk : l.length < k) : laws_toPointS.f k l = some (l.map cvPoint) := by
  unfold laws_toPointS.f
  rw [if_pos (by omega), show ((l.length : Int)).toNat = l.length by omega, if_pos (by omega)]
  have := laws_toPointS_run l [] k (by simp; omega) hk
  simpa using this
theorem laws_eqPoint_f (a0 : Int) (a1 : Int) : laws_eqPoint.f a0 a1 a0 a1 = some true := by unfold laws_eqPoint.f; simp
theorem laws_eqPointS_run (l : List S92) (hl : l.length ≤ 1099511627776) : ∀ (d k : Nat) (i : Int), 0 ≤ i → i + d = l.length → d < k → laws_eqPointS.l0 k l l i = some true := by
  intro d
  induction d with
  | zero =>
    intro k i h0 h1 hk
    obtain ⟨q, rfl⟩ : ∃ m, k = m + 1 := ⟨k - 1, by omega⟩
    simp only [laws_eqPointS.l0]; rw [if_neg (by omega)]
  | succ d ih =>
    intro k i h0 h1 hk
    obtain ⟨q, rfl⟩ : ∃ m, k = m + 1 := ⟨k - 1, by omega⟩
    simp only [laws_eqPointS.l0]
    rw [if_pos (by omega), if_pos h0, if_pos (by omega), laws_eqPoint_f, w64 (n := i + 1) (by omega) (by omega)]
    simp only [Option.bind_some]
    rw [if_pos trivial, ih q (i + 1) (by omega) (by omega) (by omega)]
theorem laws_eqPointS_f (l : List S92) (hl : l.length ≤ 1099511627776) (k : Nat) (hk : l.length < k) : laws_eqPointS.f k l l = some true := by
  unfold laws_eqPointS.f; rw [if_pos rfl]; exact laws_eqPointS_run l hl l.length k 0 (by omega) (by omega) hk
def mkPoint (m : Int) : S92 := ⟨m, m + 1⟩
def marksPoint : Int → Nat → List S92
  | _, 0 => []
  | m, n + 1 => mkPoint m :: marksPoint (m + 1 + 1) n
theorem marksPoint_length : ∀ (n : Nat) (m : Int), (marksPoint m n).length = n
  | 0, _ => rfl
  | n + 1, m => by simp [marksPoint, marksPoint_length n]
theorem laws_markPointS_run : ∀ (b a : List S92) (k : Nat) (m : Int), 0 < m → m + 2 * b.length ≤ 1099511627776 → a.length + b.length ≤ 1099511627776 → b.length + 40 < k →
    laws_markPointS.l0 k (a ++ b) m (a.length : Int) = some (m + 2 * b.length, a ++ marksPoint m b.length) := by
  intro b
  induction b with
  | nil =>
    intro a k m h0 h1 h2 hk
    obtain ⟨q, rfl⟩ : ∃ m, k = m + 1 := ⟨k - 1, by omega⟩
    simp only [laws_markPointS.l0]; rw [if_neg (by simp)]; simp [marksPoint]
  | cons x b ih =>
    intro a k m h0 h1 h2 hk
    simp only [List.length_cons] at h1 h2 hk
    obtain ⟨q, rfl⟩ : ∃ m, k = m + 1 := ⟨k - 1, by omega⟩
    have e1 : wrap64 (m + 1) = m + 1 := w64 (by omega) (by omega)
    have e2 : wrap64 (m + 1 + 1) = m + 1 + 1 := w64 (by omega) (by omega)
    simp only [laws_markPointS.l0]
    rw [if_pos (by simp; omega)]
    rw [if_pos (by omega), w64 (n := (a.length : Int) + 1) (by omega) (by omega)]
    simp only [e1, e2, Option.bind_some, setA92, rdA92]
    have f := ih (a ++ [mkPoint m]) q (m + 1 + 1) (by omega) (by omega) (by simp; omega) (by omega)
    rw [List.append_assoc, List.singleton_append, show (((a ++ [mkPoint m]).length : Nat) : Int) = (a.length : Int) + 1 by simp] at f
    refine Eq.trans f ?_
    simp [marksPoint]; omega
theorem laws_markPointS_f (l : List S92) (m : Int) (h0 : 0 < m) (h1 : m + 2 * l.length ≤ 1099511627776) (k : Nat) (hk : l.length + 40 < k) : laws_markPointS.f k l m = some (m + 2 * l.length, marksPoint m l.length) := by
  unfold laws_markPointS.f
  have := laws_markPointS_run l [] k m h0 h1 (by simp; omega) hk
  simpa using this
theorem laws_heldPointS_run : ∀ (n : Nat) (a : List S92) (k : Nat) (m : Int), 0 < m → m + 2 * n ≤ 1099511627776 → a.length + n ≤ 1099511627776 → n + 40 < k →
    laws_heldPointS.l0 k (a ++ marksPoint m n) m (a.length : Int) = some (m + 2 * n) := by
  intro n
  induction n with
  | zero =>
    intro a k m h0 h1 h2 hk
    obtain ⟨q, rfl⟩ : ∃ m, k = m + 1 := ⟨k - 1, by omega⟩
    simp only [laws_heldPointS.l0]; rw [if_neg (by simp [marksPoint])]; simp
  | succ n ih =>
    intro a k m h0 h1 h2 hk
    obtain ⟨q, rfl⟩ : ∃ m, k = m + 1 := ⟨k - 1, by omega⟩
    have e1 : wrap64 (m + 1) = m + 1 := w64 (by omega) (by omega)
    have e2 : wrap64 (m + 1 + 1) = m + 1 + 1 := w64 (by omega) (by omega)
    have f := ih (a ++ [mkPoint m]) q (m + 1 + 1) (by omega) (by omega) (by simp; omega) (by omega)
    rw [List.append_assoc, List.singleton_append, show (((a ++ [mkPoint m]).length : Nat) : Int) = (a.length : Int) + 1 by simp] at f
    have hl : (a ++ marksPoint m (n + 1)).length = a.length + (n + 1) := by rw [List.length_append, marksPoint_length]
    simp only [laws_heldPointS.l0]
    rw [if_pos (by rw [hl]; omega), if_pos (by omega), w64 (n := (a.length : Int) + 1) (by omega) (by omega), marksPoint]
    simp only [e1, e2, Option.bind_some, rdA92, mkPoint, if_true]
    refine Eq.trans f ?_
    congr 1; omega
theorem laws_heldPointS_f (n : Nat) (m : Int) (h0 : 0 < m) (h1 : m + 2 * n ≤ 1099511627776) (k : Nat) (hk : n + 40 < k) : laws_heldPointS.f k (marksPoint m n) m = some (m + 2 * n) := by
  unfold laws_heldPointS.f
  have := laws_heldPointS_run n [] k m h0 h1 (by simp; omega) hk
  simpa using this

/-! PointsOk -/
theorem laws_szPointS_f (l : List S94) (hl : l.length ≤ maxLen) (left : Int) (l0 : 0 ≤ left) (l1 : left ≤ 1048576) : laws_szPointS.f l left = some (if left - (l.length : Int) < 0 then -1 else left - l.length) := by
  unfold laws_szPointS.f maxLen at *
  rw [w64 (by omega) (by omega)]
  split <;> rfl
theorem rdB (a : List S92) (p x : S92) (b : List S92) : rd_T92 (a ++ p :: x :: b) ((a.length : Int) + 1) = x := by
  have := rdA92 (a ++ [p]) x b
  rw [List.append_assoc, List.singleton_append, show (((a ++ [p]).length : Nat) : Int) = (a.length : Int) + 1 by simp] at this
  exact this
def ptOk (x : S92) : Prop := 0 ≤ x.f0 ∧ x.f0 ≤ 1099511627776 ∧ -1099511627776 ≤ x.f1 ∧ x.f1 ≤ 1099511627776
instance (x : S92) : Decidable (ptOk x) := by unfold ptOk; exact inferInstance
def ptsR : S92 → List S92 → Bool
  | _, [] => true
  | p, x :: r => decide (ptOk x ∧ p.f0 < x.f0) && ptsR x r
def ptsM : List S92 → Bool
  | [] => true
  | x :: r => decide (ptOk x) && ptsR x r
theorem spec_PointsOk_run : ∀ (b a : List S92) (p : S92) (k : Nat), a.length + 1 + b.length ≤ 1048576 → b.length < k → spec_PointsOk.l0 k (a ++ p :: b) ((a.length : Int) + 1) = some (ptsR p b) := by
  intro b
  induction b with
  | nil =>
    intro a p k h0 hk
    obtain ⟨q, rfl⟩ : ∃ m, k = m + 1 := ⟨k - 1, by omega⟩
    simp only [spec_PointsOk.l0]; rw [if_neg (by simp)]; rfl
  | cons x b ih =>
    intro a p k h0 hk
    simp only [List.length_cons] at h0 hk
    obtain ⟨q, rfl⟩ : ∃ m, k = m + 1 := ⟨k - 1, by omega⟩
    have f := ih (a ++ [p]) x q (by simp; omega) (by omega)
    rw [← List.append_cons, show (((a ++ [p]).length : Nat) : Int) = (a.length : Int) + 1 by simp] at f
    simp only [spec_PointsOk.l0, rdB, spec_l1In_run, Option.bind_some, decide_eq_true_eq, ptsR]
    rw [if_pos (by simp only [List.length_append, List.length_cons]; omega), if_pos (by omega), w64 (n := (a.length : Int) + 1 - 1) (by omega) (by omega), show (a.length : Int) + 1 - 1 = a.length by omega, rdA92, w64 (n := (a.length : Int) + 1 + 1) (by omega) (by omega), f]
    by_cases h : ptOk x ∧ p.f0 < x.f0
    · have h2 := h; unfold ptOk at h2
      rw [if_pos (by omega), if_pos (by omega), if_pos (by omega), if_pos (by omega), if_pos (by simp only [List.length_append, List.length_cons]; omega), if_neg (by omega), decide_eq_true h, Bool.true_and]
    · rw [decide_eq_false h, Bool.false_and]
      unfold ptOk at h
      have hz : (a.length : Int) < ((a ++ p :: x :: b).length : Int) := by simp only [List.length_append, List.length_cons]; omega
      repeat' split
      all_goals (first | rfl | (exfalso; omega))
theorem spec_PointsOk_f (l : List S92) (k : Nat) (hk : 70 < k) : spec_PointsOk.f k l = some (decide ((l.length : Int) ≤ 60) && ptsM l) := by
  unfold spec_PointsOk.f
  by_cases h : (l.length : Int) > 60
  · rw [if_pos h, decide_eq_false (by omega), Bool.false_and]
  · rw [if_neg h, decide_eq_true (by omega), Bool.true_and]
    obtain ⟨q, rfl⟩ : ∃ m, k = m + 1 := ⟨k - 1, by omega⟩
    cases l with
    | nil => simp only [spec_PointsOk.l0]; rw [if_neg (by simp)]; rfl
    | cons x r =>
      simp only [List.length_cons] at h
      have e0 : rd_T92 (x :: r) 0 = x := rfl
      have f := spec_PointsOk_run r [] x q (by simp; omega) (by omega)
      simp only [List.nil_append, List.length_nil] at f
      simp only [spec_PointsOk.l0, e0, spec_l1In_run, Option.bind_some, decide_eq_true_eq, ptsM]
      rw [if_pos (by simp only [List.length_cons]; omega), if_pos (by omega), w64 (n := 0 + 1) (by omega) (by omega), show (0 : Int) + 1 = ((0 : Nat) : Int) + 1 from rfl, f]
      by_cases hx : ptOk x
      · have h2 := hx; unfold ptOk at h2
        rw [if_pos (by omega), if_pos (by omega), if_neg (by omega), decide_eq_true hx, Bool.true_and]
      · rw [decide_eq_false hx, Bool.false_and]
        unfold ptOk at hx
        repeat' split
        all_goals (first | rfl | (exfalso; omega))

theorem impl_PointsOk_run : ∀ (b a : List S92) (p : S92) (k : Nat), a.length + 1 + b.length ≤ 1048576 → b.length < k → impl_PointsOk.l0 k (a ++ p :: b) (a ++ p :: b) ((a ++ p :: b).length : Int) ((a.length : Int) + 1) = some (ptsR p b && decide (((a ++ p :: b).length : Int) ≤ 60)) := by
  intro b
  induction b with
  | nil =>
    intro a p k h0 hk
    obtain ⟨q, rfl⟩ : ∃ m, k = m + 1 := ⟨k - 1, by omega⟩
    simp only [impl_PointsOk.l0]; rw [if_neg (by simp)]; simp [ptsR]
  | cons x b ih =>
    intro a p k h0 hk
    simp only [List.length_cons] at h0 hk
    obtain ⟨q, rfl⟩ : ∃ m, k = m + 1 := ⟨k - 1, by omega⟩
    have f := ih (a ++ [p]) x q (by simp; omega) (by omega)
    rw [← List.append_cons, show (((a ++ [p]).length : Nat) : Int) = (a.length : Int) + 1 by simp] at f
    have hz1 : (a.length : Int) + 1 < ((a ++ p :: x :: b).length : Int) := by simp only [List.length_append, List.length_cons]; omega
    simp only [impl_PointsOk.l0, rdB, impl_from_run, Option.bind_some, decide_eq_true_eq, ptsR]
    rw [if_pos hz1, if_pos (by omega), if_pos hz1, w64 (n := (a.length : Int) + 1 - 1) (by omega) (by omega), show (a.length : Int) + 1 - 1 = a.length by omega, rdA92, w64 (n := (a.length : Int) + 1 + 1) (by omega) (by omega), f]
    by_cases h : ptOk x ∧ p.f0 < x.f0
    · have h2 := h; unfold ptOk at h2
      rw [if_pos (by omega), if_pos (by omega), if_pos (by omega), if_pos (by omega), if_pos (by omega), if_neg (by omega), decide_eq_true h, Bool.true_and]
    · rw [decide_eq_false h, Bool.false_and, Bool.false_and]
      unfold ptOk at h
      repeat' split
      all_goals (first | rfl | (exfalso; omega))
theorem impl_PointsOk_f (l : List S92) (hl : l.length ≤ 1048576) (k : Nat) (hk : 1048600 < k) : impl_PointsOk.f k l = some (decide ((l.length : Int) ≤ 60) && ptsM l) := by
  unfold impl_PointsOk.f
  obtain ⟨q, rfl⟩ : ∃ m, k = m + 1 := ⟨k - 1, by omega⟩
  cases l with
  | nil => simp only [impl_PointsOk.l0]; rw [if_neg (by simp)]; rfl
  | cons x r =>
    simp only [List.length_cons] at hl
    have e0 : rd_T92 (x :: r) 0 = x := rfl
    have f := impl_PointsOk_run r [] x q (by simp; omega) (by omega)
    simp only [List.nil_append, List.length_nil] at f
    have hz : (0 : Int) < ((x :: r).length : Int) := by simp only [List.length_cons]; omega
    simp only [impl_PointsOk.l0, e0, impl_from_run, Option.bind_some, decide_eq_true_eq, ptsM]
    rw [if_pos hz, if_pos (by omega), if_pos hz, w64 (n := 0 + 1) (by omega) (by omega), show (0 : Int) + 1 = ((0 : Nat) : Int) + 1 from rfl, f]
    by_cases hx : ptOk x
    · have h2 := hx; unfold ptOk at h2
      rw [if_pos (by omega), if_pos (by omega), if_neg (by omega), decide_eq_true hx, Bool.true_and, Bool.and_comm]
    · rw [decide_eq_false hx, Bool.false_and, Bool.and_false]
      unfold ptOk at hx
      repeat' split
      all_goals (first | rfl | (exfalso; omega))

theorem delP_cons (a b : Int) (x : S92) (r : List S92) : delM a b (x :: r) = if x.f0 ≥ a ∧ x.f0 < b then x :: delM a b r else delM a b r := by
  unfold delM
  by_cases c : x.f0 ≥ a ∧ x.f0 < b
  · rw [if_pos c, List.filter_cons_of_pos (by simp [outP]; omega)]
  · rw [if_neg c, List.filter_cons_of_neg (by simp [outP]; omega)]
theorem l8Slice_run (x1 x2 : Int) : ∀ (b a o : List S92) (k : Nat), a.length + b.length ≤ 2097152 → o.length ≤ a.length → b.length < k → spec_l8Slice.l0 k (a ++ b) x1 x2 o (a.length : Int) = some (o ++ delM x1 x2 b)
  | [], a, o, k, h0, ho, hk => by
    obtain ⟨q, rfl⟩ : ∃ m, k = m + 1 := ⟨k - 1, by omega⟩
    simp only [spec_l8Slice.l0]; rw [if_neg (by simp)]; simp [delM]
  | x :: b, a, o, k, h0, ho, hk => by
    simp only [List.length_cons] at h0 hk
    obtain ⟨q, rfl⟩ : ∃ m, k = m + 1 := ⟨k - 1, by omega⟩
    simp only [spec_l8Slice.l0]
    rw [if_pos (by simp; omega), if_pos (by omega), rdA92, w64 (n := (a.length : Int) + 1) (by omega) (by omega), delP_cons]
    have f := l8Slice_run x1 x2 b (a ++ [x]) o q (by simp; omega) (by simp; omega) (by omega)
    have g := l8Slice_run x1 x2 b (a ++ [x]) (o ++ [x]) q (by simp; omega) (by simp; omega) (by omega)
    rw [List.append_assoc, List.singleton_append, show (((a ++ [x]).length : Nat) : Int) = (a.length : Int) + 1 by simp] at f g
    by_cases c1 : x.f0 ≥ x1
    · rw [if_pos c1]
      by_cases c2 : x.f0 < x2
      · rw [if_pos c2, if_pos (by omega), if_pos ⟨c1, c2⟩, show (⟨x.f0, x.f1⟩ : S92) = x from rfl, g]; simp
      · rw [if_neg c2, if_neg (fun h => c2 h.2), f]
    · rw [if_neg c1, if_neg (fun h => c1 h.1), f]
theorem slice_both (l : List S92) (hl : l.length ≤ 1048576) (a b : Int) : ∃ r : List S92, r.length ≤ 1048576 ∧ (∀ k, 1048600 < k → spec_Slice.f k l a b = some r) ∧ (∀ k, 1048600 < k → impl_Slice.f k l a b = some r) := by
  have hd : (delM a b l).length ≤ l.length := List.length_filter_le _ _
  have e : ∀ k, 1048600 < k → ∃ o, spec_PointsOk.f k l = some o ∧ impl_PointsOk.f k l = some o := fun k hk => ⟨_, spec_PointsOk_f _ _ (by omega), impl_PointsOk_f _ hl _ (by omega)⟩
  obtain ⟨o, eo, _⟩ := e 1048601 (by omega)
  have so : ∀ k, 1048600 < k → spec_PointsOk.f k l = some o := fun k hk => by
    rw [spec_PointsOk_f _ _ (show _ by omega)] at eo ⊢; exact eo
  have io : ∀ k, 1048600 < k → impl_PointsOk.f k l = some o := fun k hk => by
    obtain ⟨p, g1, g2⟩ := e k hk
    rw [g2, ← g1, so k hk]
  cases o with
  | true =>
    refine ⟨delM a b l, by omega, fun k hk => ?_, fun k hk => ?_⟩
    · unfold spec_Slice.f
      rw [so k hk]
      simp only [Option.bind_some]
      rw [if_pos trivial]
      have f := l8Slice_run a b l [] [] k (by simp; omega) (by simp) (by omega)
      unfold spec_l8Slice.f
      simp only [List.nil_append, List.length_nil] at f
      rw [show (0 : Int) = ((0 : Nat) : Int) from rfl, f]; rfl
    · unfold impl_Slice.f impl_sliced.f
      rw [io k hk]
      simp only [Option.bind_some]
      rw [if_pos trivial, if_pos (by omega)]; rfl
  | false =>
    refine ⟨[], by simp, fun k hk => ?_, fun k hk => ?_⟩
    · unfold spec_Slice.f
      rw [so k hk]
      simp only [Option.bind_some]
      rw [if_neg (by decide)]
    · unfold impl_Slice.f
      rw [io k hk]
      simp only [Option.bind_some]
      rw [if_neg (by decide)]
theorem FnExactSlice (l0 : List S94) (a1 : Int) (a2 : Int) (m0 : l0.length ≤ maxLen) (g0 : ∀ z ∈ l0, (Lit.int .i64 z.f0).wf = true ∧ (Lit.int .i64 z.f1).wf = true) (w1 : (Lit.int .i64 a1).wf = true) (w2 : (Lit.int .i64 a2).wf = true) : ∃ k, laws_FnExactSlice.f k l0 a1 a2 = some true := by
  obtain ⟨K, hK⟩ : ∃ K : Nat, K = 1048800 := ⟨_, rfl⟩
  refine ⟨K + 1, ?_⟩
  unfold laws_FnExactSlice.f
  rw [laws_szPointS_f l0 m0 _ (by omega) (by omega)]
  simp only [Option.bind_some]
  by_cases h : 1048576 - (l0.length : Int) < 0
  · rw [if_pos h]; rfl
  · have hm : (l0.map cvPoint).length ≤ 1048576 := by rw [List.length_map]; omega
    rw [if_neg h, if_neg h, laws_toPointS_f l0 (by omega) (K + 1) (by omega)]
    simp only [Option.bind_some]
    obtain ⟨R, hR, e1, e2⟩ := slice_both (l0.map cvPoint) hm a1 a2
    rw [e1 _ (by omega), e2 _ (by omega)]; simp only [Option.bind_some]
    rw [laws_eqPointS_f R (by omega) (K + 1) (by omega)]; simp only [Option.bind_some]
    rw [if_pos trivial, laws_eqPointS_f _ (by omega) (K + 1) (by omega)]; simp only [Option.bind_some]
    rw [if_pos trivial, laws_markPointS_f _ 1 (by omega) (by omega) (K + 1) (by omega)]; simp only [Option.bind_some]
    rw [if_neg (by omega)]
    simp only [laws_FnExactSlice.j0, Bool.not_true]
    rw [if_neg (by decide), laws_markPointS_f R 1 (by omega) (by omega) K (by omega)]; simp only [Option.bind_some]
    rw [laws_heldPointS_f _ 1 (by omega) (by omega) K (by omega)]; simp only [Option.bind_some]
    rw [if_neg (by omega), if_pos trivial, laws_toPointS_f l0 (by omega) K (by omega)]; simp only [Option.bind_some]
    rw [e2 _ (by omega)]; simp only [Option.bind_some]
    rw [laws_eqPointS_f R (by omega) K (by omega)]; simp only [Option.bind_some]
    rw [if_pos trivial, if_neg (by omega), if_pos trivial]

end Go.Proofs.Ytfmddjbekophnaa.Pure
