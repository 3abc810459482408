/- Steps on a disk answer as the reference. -/
import Derived.Test.YtndbmllnkjngnaaGreatPFnExactDoStepsx1
import Derived.Test.YtndbmllnkjngnaaGreatBase
import Derived.Test.YtndbmllnkjngnaaGreatNum
import Derived.Test.YtndbmllnkjngnaaGreatNumDec
import Derived.Test.YtndbmllnkjngnaaGreatNumRec
namespace Go.Proofs.YtndbmllnkjngnaaGreat.Pure
open Go.RowKit Go.Proofs.YtndbmllnkjngnaaGreat.PDs Go.Proofs.YtndbmllnkjngnaaGreat.PFnExactDoSteps Go.Proofs.YtndbmllnkjngnaaGreatW.PrintWords Go.Proofs.YtndbmllnkjngnaaGreatW.PrintLast Go.Proofs.YtndbmllnkjngnaaGreatW.PrintMore Go.Proofs.YtndbmllnkjngnaaGreat.Base
set_option linter.unusedVariables false
set_option linter.unusedSimpArgs false

/-! ranges -/
theorem spec_l1In_run (a b c : Int) : spec_l1In.f a b c = some (decide (b ≤ a ∧ a ≤ c)) := by
  unfold spec_l1In.f
  by_cases h : a ≥ b
  · rw [if_pos h]; congr 1; simp [show b ≤ a from h]
  · rw [if_neg h]; congr 1; simp; omega

theorem impl_from_run (a b c : Int) : impl_from.f a b c = some (decide (b ≤ a ∧ a ≤ c)) := by
  unfold impl_from.f
  by_cases h : a ≥ b
  · rw [if_pos h]; congr 1; simp [show b ≤ a from h]
  · rw [if_neg h]; congr 1; simp; omega

/-! marks -/
def mT (n : Int) : ByteArray := strOfNums (109 :: decN n.toNat)
theorem str109 : (⟨#[109]⟩ : ByteArray) = strOfNums [109] := by decide

theorem laws_markText_loop : ∀ (d k n : Nat) (l : List Int), n < 10 ^ d → (0 < n → True) → n ≤ 4611686018427387904 → l.length + d < 90 → d < k →
    laws_markText.l0 k (n : Int) (strOfNums l) = some (strOfNums (109 :: ((if n = 0 then [] else decN n) ++ l))) := by
  intro d
  induction d with
  | zero =>
    intro k n l n1 _ hd hl hk
    obtain ⟨q, rfl⟩ : ∃ m, k = m + 1 := ⟨k - 1, by omega⟩
    have hn : n = 0 := by omega
    simp only [laws_markText.l0]
    rw [if_neg (by omega), if_pos (by rw [size_strOfNums]; omega), if_pos hn, str109, strOfNums_append]; rfl
  | succ d ih =>
    intro k n l n1 _ hd hl hk
    obtain ⟨q, rfl⟩ : ∃ m, k = m + 1 := ⟨k - 1, by omega⟩
    by_cases h0 : n = 0
    · simp only [laws_markText.l0]
      rw [if_neg (by omega), if_pos (by rw [size_strOfNums]; omega), if_pos h0, str109, strOfNums_append]; rfl
    · simp only [laws_markText.l0]
      rw [if_pos (by omega), tmod_nn (by omega), tdiv_nn (by omega), w64 (n := 48 + (n : Int) % 10) (by omega) (by omega), w64 (n := (n : Int) / 10) (by omega) (by omega)]
      simp only [Option.bind_some]
      rw [if_pos (by rw [size_strOfNums, size_strOfNums]; simp; omega), strOfNums_append, show (n : Int) / 10 = ((n / 10 : Nat) : Int) by omega, ih q (n / 10) _ (by rw [pow10] at n1; omega) (fun _ => trivial) (by omega) (by simp; omega) (by omega), if_neg h0]
      by_cases h : n < 10
      · rw [if_pos (by omega), decN_lt h, show (48 + (n : Int) % 10) % 256 = 48 + (n : Int) by omega]; simp
      · rw [if_neg (by omega), decN_ge h, show (48 + (n : Int) % 10) % 256 = 48 + ((n % 10 : Nat) : Int) by omega]; simp

theorem laws_markText_f (n : Int) (h0 : 0 < n) (h1 : n ≤ 4611686018427387904) (k : Nat) (hk : 30 < k) : laws_markText.f k n = some (mT n) := by
  unfold laws_markText.f
  rw [if_neg (by omega)]
  have := laws_markText_loop 19 k n.toNat [] (by omega) (fun _ => trivial) (by omega) (by simp) (by omega)
  rw [show ((n.toNat : Nat) : Int) = n by omega] at this
  rw [show (⟨#[]⟩ : ByteArray) = strOfNums [] from rfl, this, if_neg (by omega)]; simp [mT]

theorem rdA121 (a : List S121) (x : S121) (b : List S121) : rd_T121 (a ++ x :: b) (a.length : Int) = x := by simp [rd_T121, List.getD]
theorem setA121 (a : List S121) (x y : S121) (b : List S121) : (a ++ x :: b).set ((a.length : Int)).toNat y = a ++ y :: b := by
  rw [show ((a.length : Int)).toNat = a.length by omega, List.set_append_right _ _ (Nat.le_refl _), Nat.sub_self, List.set_cons_zero]
theorem rdA130 (a : List S130) (x : S130) (b : List S130) : rd_T130 (a ++ x :: b) (a.length : Int) = x := by simp [rd_T130, List.getD]
theorem setA130 (a : List S130) (x y : S130) (b : List S130) : (a ++ x :: b).set ((a.length : Int)).toNat y = a ++ y :: b := by
  rw [show ((a.length : Int)).toNat = a.length by omega, List.set_append_right _ _ (Nat.le_refl _), Nat.sub_self, List.set_cons_zero]
theorem laws_szInode_f (a0 : Int) (a1 : ByteArray) (a2 : Int) (left : Int) (h1 : a1.size ≤ maxLen) (l0 : 0 ≤ left) (l1 : left ≤ 1048576) : ∃ r, laws_szInode.f a0 a1 a2 left = some r ∧ -1 ≤ r ∧ r ≤ left ∧ (0 ≤ r → 0 ≤ left ∧ (a1.size : Int) ≤ left) := by
  unfold laws_szInode.f
  unfold maxLen at h1
  have e1 : wrap64 (left - (a1.size : Int)) = left - (a1.size : Int) := w64 (by omega) (by omega)
  simp only [e1]
  by_cases g1 : left - (a1.size : Int) < 0
  · rw [if_pos g1]; exact ⟨-1, rfl, by omega, by omega, fun h => by omega⟩
  · rw [if_neg g1]
    exact ⟨_, rfl, by omega, by omega, fun h => by omega⟩
theorem laws_szInodeS_run : ∀ (b a : List S121) (k : Nat) (left : Int), a.length + b.length ≤ 1048576 → (∀ x ∈ b, x.f1.size ≤ maxLen) → 0 ≤ left → left ≤ 1048576 → b.length < k →
    ∃ r, laws_szInodeS.l0 k (a ++ b) left (a.length : Int) = some r ∧ -1 ≤ r ∧ r ≤ left ∧ (0 ≤ r → ∀ x ∈ b, (x.f1.size : Int) ≤ left) := by
  intro b
  induction b with
  | nil =>
    intro a k left h0 hg l0 l1 hk
    obtain ⟨q, rfl⟩ : ∃ m, k = m + 1 := ⟨k - 1, by omega⟩
    simp only [laws_szInodeS.l0]
    rw [if_neg (by simp)]
    exact ⟨left, rfl, by omega, by omega, fun _ x hx => by simp at hx⟩
  | cons x b ih =>
    intro a k left h0 hg l0 l1 hk
    simp only [List.length_cons] at h0 hk
    obtain ⟨q, rfl⟩ : ∃ m, k = m + 1 := ⟨k - 1, by omega⟩
    simp only [laws_szInodeS.l0]
    rw [if_pos (by simp; omega), if_pos (by omega), rdA121]
    have hgx := hg x (List.mem_cons_self)
    obtain ⟨r, e, r0, r1, r2⟩ := laws_szInode_f x.f0 x.f1 x.f2 left hgx l0 l1
    rw [e]; simp only [Option.bind_some]
    by_cases hr : r < 0
    · rw [if_pos hr]; exact ⟨-1, rfl, by omega, by omega, fun h => by omega⟩
    · rw [if_neg hr, w64 (n := (a.length : Int) + 1) (by omega) (by omega)]
      obtain ⟨s, f, s0, s1, s2⟩ := ih (a ++ [x]) q r (by simp; omega) (fun y hy => hg y (List.mem_cons_of_mem _ hy)) (by omega) (by omega) (by omega)
      rw [List.append_assoc, List.singleton_append, show (((a ++ [x]).length : Nat) : Int) = (a.length : Int) + 1 by simp] at f
      refine ⟨s, f, s0, by omega, fun hs y hy => ?_⟩
      have r3 := r2 (by omega)
      rcases List.mem_cons.1 hy with rfl | hy
      · omega
      · have := s2 hs y hy
        omega
theorem laws_szInodeS_f (l : List S121) (left : Int) (hl : l.length ≤ maxLen) (hg : ∀ x ∈ l, x.f1.size ≤ maxLen) (l0 : 0 ≤ left) (l1 : left ≤ 1048576) (k : Nat) (hk : 1048577 < k) :
    ∃ r, laws_szInodeS.f k l left = some r ∧ -1 ≤ r ∧ r ≤ left ∧ (0 ≤ r → l.length ≤ 1048576 ∧ ∀ x ∈ l, x.f1.size ≤ 1048576) := by
  unfold laws_szInodeS.f maxLen at *
  rw [w64 (n := left - (l.length : Int)) (by omega) (by omega)]
  by_cases h : left - (l.length : Int) < 0
  · rw [if_pos h]; exact ⟨-1, rfl, by omega, by omega, fun h => by omega⟩
  · rw [if_neg h]
    obtain ⟨r, e, r0, r1, r2⟩ := laws_szInodeS_run l [] k (left - (l.length : Int)) (by simp; omega) (fun x hx => by have := hg x hx; (unfold maxLen; exact this)) (by omega) (by omega) (by omega)
    refine ⟨r, by simpa using e, r0, by omega, fun hr => ⟨by omega, fun x hx => ?_⟩⟩
    have := r2 hr x hx
    omega
def cvInode (x : S121) : S130 := ⟨x.f0, x.f1, x.f2⟩
theorem laws_toInodeS_run : ∀ (b a : List S121) (k : Nat), a.length + b.length ≤ 1048576 → b.length < k →
    laws_toInodeS.l0 k (a ++ b) (a.map cvInode ++ List.replicate b.length z130) (a.length : Int) = some ((a ++ b).map cvInode) := by
  intro b
  induction b with
  | nil =>
    intro a k h0 hk
    obtain ⟨q, rfl⟩ : ∃ m, k = m + 1 := ⟨k - 1, by omega⟩
    simp only [laws_toInodeS.l0]
    rw [if_neg (by simp)]; simp
  | cons x b ih =>
    intro a k h0 hk
    simp only [List.length_cons] at h0 hk
    obtain ⟨q, rfl⟩ : ∃ m, k = m + 1 := ⟨k - 1, by omega⟩
    simp only [laws_toInodeS.l0]
    rw [if_pos (by simp; omega), if_pos (by omega), rdA121]
    simp only [laws_toInode.f, Option.bind_some]
    rw [if_pos (by simp; omega), w64 (n := (a.length : Int) + 1) (by omega) (by omega), List.length_cons, List.replicate_succ]
    have hs := setA130 (a.map cvInode) z130 (cvInode x) (List.replicate b.length z130)
    rw [List.length_map] at hs
    rw [show (⟨x.f0, x.f1, x.f2⟩ : S130) = cvInode x from rfl, hs]
    have f := ih (a ++ [x]) q (by simp; omega) (by omega)
    rw [List.append_assoc, List.singleton_append, show (((a ++ [x]).length : Nat) : Int) = (a.length : Int) + 1 by simp, List.map_append, List.map_singleton, List.append_assoc, List.singleton_append] at f
    exact f
theorem laws_toInodeS_f (l : List S121) (hl : l.length ≤ 1048576) (k : Nat) (hk : l.length < k) : laws_toInodeS.f k l = some (l.map cvInode) := by
  unfold laws_toInodeS.f
  rw [if_pos (by omega), show ((l.length : Int)).toNat = l.length by omega, if_pos (by omega)]
  have := laws_toInodeS_run l [] k (by simp; omega) hk
  simpa using this
theorem laws_eqInode_f (a0 : Int) (a1 : ByteArray) (a2 : Int) : laws_eqInode.f a0 a1 a2 a0 a1 a2 = some true := by unfold laws_eqInode.f; simp
theorem laws_eqInodeS_run (l : List S130) (hl : l.length ≤ 1099511627776) : ∀ (d k : Nat) (i : Int), 0 ≤ i → i + d = l.length → d < k → laws_eqInodeS.l0 k l l i = some true := by
  intro d
  induction d with
  | zero =>
    intro k i h0 h1 hk
    obtain ⟨q, rfl⟩ : ∃ m, k = m + 1 := ⟨k - 1, by omega⟩
    simp only [laws_eqInodeS.l0]; rw [if_neg (by omega)]
  | succ d ih =>
    intro k i h0 h1 hk
    obtain ⟨q, rfl⟩ : ∃ m, k = m + 1 := ⟨k - 1, by omega⟩
    simp only [laws_eqInodeS.l0]
    rw [if_pos (by omega), if_pos h0, if_pos (by omega), laws_eqInode_f, w64 (n := i + 1) (by omega) (by omega)]
    simp only [Option.bind_some]
    rw [if_pos trivial, ih q (i + 1) (by omega) (by omega) (by omega)]
theorem laws_eqInodeS_f (l : List S130) (hl : l.length ≤ 1099511627776) (k : Nat) (hk : l.length < k) : laws_eqInodeS.f k l l = some true := by
  unfold laws_eqInodeS.f; rw [if_pos rfl]; exact laws_eqInodeS_run l hl l.length k 0 (by omega) (by omega) hk
def mkInode (m : Int) : S130 := ⟨m, mT (m + 1), m + 1 + 1⟩
def marksInode : Int → Nat → List S130
  | _, 0 => []
  | m, n + 1 => mkInode m :: marksInode (m + 1 + 1 + 1) n
theorem marksInode_length : ∀ (n : Nat) (m : Int), (marksInode m n).length = n
  | 0, _ => rfl
  | n + 1, m => by simp [marksInode, marksInode_length n]
theorem laws_markInodeS_run : ∀ (b a : List S130) (k : Nat) (m : Int), 0 < m → m + 3 * b.length ≤ 1099511627776 → a.length + b.length ≤ 1099511627776 → b.length + 40 < k →
    laws_markInodeS.l0 k (a ++ b) m (a.length : Int) = some (m + 3 * b.length, a ++ marksInode m b.length) := by
  intro b
  induction b with
  | nil =>
    intro a k m h0 h1 h2 hk
    obtain ⟨q, rfl⟩ : ∃ m, k = m + 1 := ⟨k - 1, by omega⟩
    simp only [laws_markInodeS.l0]; rw [if_neg (by simp)]; simp [marksInode]
  | cons x b ih =>
    intro a k m h0 h1 h2 hk
    simp only [List.length_cons] at h1 h2 hk
    obtain ⟨q, rfl⟩ : ∃ m, k = m + 1 := ⟨k - 1, by omega⟩
    have e1 : wrap64 (m + 1) = m + 1 := w64 (by omega) (by omega)
    have e2 : wrap64 (m + 1 + 1) = m + 1 + 1 := w64 (by omega) (by omega)
    have e3 : wrap64 (m + 1 + 1 + 1) = m + 1 + 1 + 1 := w64 (by omega) (by omega)
    have t1 := laws_markText_f (m + 1) (by omega) (by omega) q (by omega)
    simp only [laws_markInodeS.l0]
    rw [if_pos (by simp; omega)]
    rw [if_pos (by omega), w64 (n := (a.length : Int) + 1) (by omega) (by omega)]
    simp only [e1, e2, e3, t1, Option.bind_some, setA130, rdA130]
    have f := ih (a ++ [mkInode m]) q (m + 1 + 1 + 1) (by omega) (by omega) (by simp; omega) (by omega)
    rw [List.append_assoc, List.singleton_append, show (((a ++ [mkInode m]).length : Nat) : Int) = (a.length : Int) + 1 by simp] at f
    refine Eq.trans f ?_
    simp [marksInode]; omega
theorem laws_markInodeS_f (l : List S130) (m : Int) (h0 : 0 < m) (h1 : m + 3 * l.length ≤ 1099511627776) (k : Nat) (hk : l.length + 40 < k) : laws_markInodeS.f k l m = some (m + 3 * l.length, marksInode m l.length) := by
  unfold laws_markInodeS.f
  have := laws_markInodeS_run l [] k m h0 h1 (by simp; omega) hk
  simpa using this
theorem laws_heldInodeS_run : ∀ (n : Nat) (a : List S130) (k : Nat) (m : Int), 0 < m → m + 3 * n ≤ 1099511627776 → a.length + n ≤ 1099511627776 → n + 40 < k →
    laws_heldInodeS.l0 k (a ++ marksInode m n) m (a.length : Int) = some (m + 3 * n) := by
  intro n
  induction n with
  | zero =>
    intro a k m h0 h1 h2 hk
    obtain ⟨q, rfl⟩ : ∃ m, k = m + 1 := ⟨k - 1, by omega⟩
    simp only [laws_heldInodeS.l0]; rw [if_neg (by simp [marksInode])]; simp
  | succ n ih =>
    intro a k m h0 h1 h2 hk
    obtain ⟨q, rfl⟩ : ∃ m, k = m + 1 := ⟨k - 1, by omega⟩
    have e1 : wrap64 (m + 1) = m + 1 := w64 (by omega) (by omega)
    have e2 : wrap64 (m + 1 + 1) = m + 1 + 1 := w64 (by omega) (by omega)
    have e3 : wrap64 (m + 1 + 1 + 1) = m + 1 + 1 + 1 := w64 (by omega) (by omega)
    have t1 := laws_markText_f (m + 1) (by omega) (by omega) q (by omega)
    have f := ih (a ++ [mkInode m]) q (m + 1 + 1 + 1) (by omega) (by omega) (by simp; omega) (by omega)
    rw [List.append_assoc, List.singleton_append, show (((a ++ [mkInode m]).length : Nat) : Int) = (a.length : Int) + 1 by simp] at f
    have hl : (a ++ marksInode m (n + 1)).length = a.length + (n + 1) := by rw [List.length_append, marksInode_length]
    simp only [laws_heldInodeS.l0]
    rw [if_pos (by rw [hl]; omega), if_pos (by omega), w64 (n := (a.length : Int) + 1) (by omega) (by omega), marksInode]
    simp only [e1, e2, e3, t1, Option.bind_some, rdA130, mkInode, if_true]
    refine Eq.trans f ?_
    congr 1; omega
theorem laws_heldInodeS_f (n : Nat) (m : Int) (h0 : 0 < m) (h1 : m + 3 * n ≤ 1099511627776) (k : Nat) (hk : n + 40 < k) : laws_heldInodeS.f k (marksInode m n) m = some (m + 3 * n) := by
  unfold laws_heldInodeS.f
  have := laws_heldInodeS_run n [] k m h0 h1 (by simp; omega) hk
  simpa using this

theorem rdA124 (a : List S124) (x : S124) (b : List S124) : rd_T124 (a ++ x :: b) (a.length : Int) = x := by simp [rd_T124, List.getD]
theorem setA124 (a : List S124) (x y : S124) (b : List S124) : (a ++ x :: b).set ((a.length : Int)).toNat y = a ++ y :: b := by
  rw [show ((a.length : Int)).toNat = a.length by omega, List.set_append_right _ _ (Nat.le_refl _), Nat.sub_self, List.set_cons_zero]
theorem rdA133 (a : List S133) (x : S133) (b : List S133) : rd_T133 (a ++ x :: b) (a.length : Int) = x := by simp [rd_T133, List.getD]
theorem setA133 (a : List S133) (x y : S133) (b : List S133) : (a ++ x :: b).set ((a.length : Int)).toNat y = a ++ y :: b := by
  rw [show ((a.length : Int)).toNat = a.length by omega, List.set_append_right _ _ (Nat.le_refl _), Nat.sub_self, List.set_cons_zero]
theorem laws_szLink_f (a0 : ByteArray) (a1 : Int) (left : Int) (h0 : a0.size ≤ maxLen) (l0 : 0 ≤ left) (l1 : left ≤ 1048576) : ∃ r, laws_szLink.f a0 a1 left = some r ∧ -1 ≤ r ∧ r ≤ left ∧ (0 ≤ r → 0 ≤ left ∧ (a0.size : Int) ≤ left) := by
  unfold laws_szLink.f
  unfold maxLen at h0
  have e0 : wrap64 (left - (a0.size : Int)) = left - (a0.size : Int) := w64 (by omega) (by omega)
  simp only [e0]
  by_cases g0 : left - (a0.size : Int) < 0
  · rw [if_pos g0]; exact ⟨-1, rfl, by omega, by omega, fun h => by omega⟩
  · rw [if_neg g0]
    exact ⟨_, rfl, by omega, by omega, fun h => by omega⟩
theorem laws_szLinkS_run : ∀ (b a : List S124) (k : Nat) (left : Int), a.length + b.length ≤ 1048576 → (∀ x ∈ b, x.f0.size ≤ maxLen) → 0 ≤ left → left ≤ 1048576 → b.length < k →
    ∃ r, laws_szLinkS.l0 k (a ++ b) left (a.length : Int) = some r ∧ -1 ≤ r ∧ r ≤ left ∧ (0 ≤ r → ∀ x ∈ b, (x.f0.size : Int) ≤ left) := by
  intro b
  induction b with
  | nil =>
    intro a k left h0 hg l0 l1 hk
    obtain ⟨q, rfl⟩ : ∃ m, k = m + 1 := ⟨k - 1, by omega⟩
    simp only [laws_szLinkS.l0]
    rw [if_neg (by simp)]
    exact ⟨left, rfl, by omega, by omega, fun _ x hx => by simp at hx⟩
  | cons x b ih =>
    intro a k left h0 hg l0 l1 hk
    simp only [List.length_cons] at h0 hk
    obtain ⟨q, rfl⟩ : ∃ m, k = m + 1 := ⟨k - 1, by omega⟩
    simp only [laws_szLinkS.l0]
    rw [if_pos (by simp; omega), if_pos (by omega), rdA124]
    have hgx := hg x (List.mem_cons_self)
    obtain ⟨r, e, r0, r1, r2⟩ := laws_szLink_f x.f0 x.f1 left hgx l0 l1
    rw [e]; simp only [Option.bind_some]
    by_cases hr : r < 0
    · rw [if_pos hr]; exact ⟨-1, rfl, by omega, by omega, fun h => by omega⟩
    · rw [if_neg hr, w64 (n := (a.length : Int) + 1) (by omega) (by omega)]
      obtain ⟨s, f, s0, s1, s2⟩ := ih (a ++ [x]) q r (by simp; omega) (fun y hy => hg y (List.mem_cons_of_mem _ hy)) (by omega) (by omega) (by omega)
      rw [List.append_assoc, List.singleton_append, show (((a ++ [x]).length : Nat) : Int) = (a.length : Int) + 1 by simp] at f
      refine ⟨s, f, s0, by omega, fun hs y hy => ?_⟩
      have r3 := r2 (by omega)
      rcases List.mem_cons.1 hy with rfl | hy
      · omega
      · have := s2 hs y hy
        omega
theorem laws_szLinkS_f (l : List S124) (left : Int) (hl : l.length ≤ maxLen) (hg : ∀ x ∈ l, x.f0.size ≤ maxLen) (l0 : 0 ≤ left) (l1 : left ≤ 1048576) (k : Nat) (hk : 1048577 < k) :
    ∃ r, laws_szLinkS.f k l left = some r ∧ -1 ≤ r ∧ r ≤ left ∧ (0 ≤ r → l.length ≤ 1048576 ∧ ∀ x ∈ l, x.f0.size ≤ 1048576) := by
  unfold laws_szLinkS.f maxLen at *
  rw [w64 (n := left - (l.length : Int)) (by omega) (by omega)]
  by_cases h : left - (l.length : Int) < 0
  · rw [if_pos h]; exact ⟨-1, rfl, by omega, by omega, fun h => by omega⟩
  · rw [if_neg h]
    obtain ⟨r, e, r0, r1, r2⟩ := laws_szLinkS_run l [] k (left - (l.length : Int)) (by simp; omega) (fun x hx => by have := hg x hx; (unfold maxLen; exact this)) (by omega) (by omega) (by omega)
    refine ⟨r, by simpa using e, r0, by omega, fun hr => ⟨by omega, fun x hx => ?_⟩⟩
    have := r2 hr x hx
    omega
def cvLink (x : S124) : S133 := ⟨x.f0, x.f1⟩
theorem laws_toLinkS_run : ∀ (b a : List S124) (k : Nat), a.length + b.length ≤ 1048576 → b.length < k →
    laws_toLinkS.l0 k (a ++ b) (a.map cvLink ++ List.replicate b.length z133) (a.length : Int) = some ((a ++ b).map cvLink) := by
  intro b
  induction b with
  | nil =>
    intro a k h0 hk
    obtain ⟨q, rfl⟩ : ∃ m, k = m + 1 := ⟨k - 1, by omega⟩
    simp only [laws_toLinkS.l0]
    rw [if_neg (by simp)]; simp
  | cons x b ih =>
    intro a k h0 hk
    simp only [List.length_cons] at h0 hk
    obtain ⟨q, rfl⟩ : ∃ m, k = m + 1 := ⟨k - 1, by omega⟩
    simp only [laws_toLinkS.l0]
    rw [if_pos (by simp; omega), if_pos (by omega), rdA124]
    simp only [laws_toLink.f, Option.bind_some]
    rw [if_pos (by simp; omega), w64 (n := (a.length : Int) + 1) (by omega) (by omega), List.length_cons, List.replicate_succ]
    have hs := setA133 (a.map cvLink) z133 (cvLink x) (List.replicate b.length z133)
    rw [List.length_map] at hs
    rw [show (⟨x.f0, x.f1⟩ : S133) = cvLink x from rfl, hs]
    have f := ih (a ++ [x]) q (by simp; omega) (by omega)
    rw [List.append_assoc, List.singleton_append, show (((a ++ [x]).length : Nat) : Int) = (a.length : Int) + 1 by simp, List.map_append, List.map_singleton, List.append_assoc, List.singleton_append] at f
    exact f
theorem laws_toLinkS_f (l : List S124) (hl : l.length ≤ 1048576) (k : Nat) (hk : l.length < k) : laws_toLinkS.f k l = some (l.map cvLink) := by
  unfold laws_toLinkS.f
  rw [if_pos (by omega), show ((l.length : Int)).toNat = l.length by omega, if_pos (by omega)]
  have := laws_toLinkS_run l [] k (by simp; omega) hk
  simpa using this
theorem laws_eqLink_f (a0 : ByteArray) (a1 : Int) : laws_eqLink.f a0 a1 a0 a1 = some true := by unfold laws_eqLink.f; simp
theorem laws_eqLinkS_run (l : List S133) (hl : l.length ≤ 1099511627776) : ∀ (d k : Nat) (i : Int), 0 ≤ i → i + d = l.length → d < k → laws_eqLinkS.l0 k l l i = some true := by
  intro d
  induction d with
  | zero =>
    intro k i h0 h1 hk
    obtain ⟨q, rfl⟩ : ∃ m, k = m + 1 := ⟨k - 1, by omega⟩
    simp only [laws_eqLinkS.l0]; rw [if_neg (by omega)]
  | succ d ih =>
    intro k i h0 h1 hk
    obtain ⟨q, rfl⟩ : ∃ m, k = m + 1 := ⟨k - 1, by omega⟩
    simp only [laws_eqLinkS.l0]
    rw [if_pos (by omega), if_pos h0, if_pos (by omega), laws_eqLink_f, w64 (n := i + 1) (by omega) (by omega)]
    simp only [Option.bind_some]
    rw [if_pos trivial, ih q (i + 1) (by omega) (by omega) (by omega)]
theorem laws_eqLinkS_f (l : List S133) (hl : l.length ≤ 1099511627776) (k : Nat) (hk : l.length < k) : laws_eqLinkS.f k l l = some true := by
  unfold laws_eqLinkS.f; rw [if_pos rfl]; exact laws_eqLinkS_run l hl l.length k 0 (by omega) (by omega) hk
def mkLink (m : Int) : S133 := ⟨mT (m), m + 1⟩
def marksLink : Int → Nat → List S133
  | _, 0 => []
  | m, n + 1 => mkLink m :: marksLink (m + 1 + 1) n
theorem marksLink_length : ∀ (n : Nat) (m : Int), (marksLink m n).length = n
  | 0, _ => rfl
  | n + 1, m => by simp [marksLink, marksLink_length n]
theorem laws_markLinkS_run : ∀ (b a : List S133) (k : Nat) (m : Int), 0 < m → m + 2 * b.length ≤ 1099511627776 → a.length + b.length ≤ 1099511627776 → b.length + 40 < k →
    laws_markLinkS.l0 k (a ++ b) m (a.length : Int) = some (m + 2 * b.length, a ++ marksLink m b.length) := by
  intro b
  induction b with
  | nil =>
    intro a k m h0 h1 h2 hk
    obtain ⟨q, rfl⟩ : ∃ m, k = m + 1 := ⟨k - 1, by omega⟩
    simp only [laws_markLinkS.l0]; rw [if_neg (by simp)]; simp [marksLink]
  | cons x b ih =>
    intro a k m h0 h1 h2 hk
    simp only [List.length_cons] at h1 h2 hk
    obtain ⟨q, rfl⟩ : ∃ m, k = m + 1 := ⟨k - 1, by omega⟩
    have e1 : wrap64 (m + 1) = m + 1 := w64 (by omega) (by omega)
    have e2 : wrap64 (m + 1 + 1) = m + 1 + 1 := w64 (by omega) (by omega)
    have t0 := laws_markText_f (m) (by omega) (by omega) q (by omega)
    simp only [laws_markLinkS.l0]
    rw [if_pos (by simp; omega), t0]; simp only [Option.bind_some]
    rw [if_pos (by omega), w64 (n := (a.length : Int) + 1) (by omega) (by omega)]
    simp only [e1, e2, t0, Option.bind_some, setA133, rdA133]
    have f := ih (a ++ [mkLink m]) q (m + 1 + 1) (by omega) (by omega) (by simp; omega) (by omega)
    rw [List.append_assoc, List.singleton_append, show (((a ++ [mkLink m]).length : Nat) : Int) = (a.length : Int) + 1 by simp] at f
    refine Eq.trans f ?_
    simp [marksLink]; omega
theorem laws_markLinkS_f (l : List S133) (m : Int) (h0 : 0 < m) (h1 : m + 2 * l.length ≤ 1099511627776) (k : Nat) (hk : l.length + 40 < k) : laws_markLinkS.f k l m = some (m + 2 * l.length, marksLink m l.length) := by
  unfold laws_markLinkS.f
  have := laws_markLinkS_run l [] k m h0 h1 (by simp; omega) hk
  simpa using this
theorem laws_heldLinkS_run : ∀ (n : Nat) (a : List S133) (k : Nat) (m : Int), 0 < m → m + 2 * n ≤ 1099511627776 → a.length + n ≤ 1099511627776 → n + 40 < k →
    laws_heldLinkS.l0 k (a ++ marksLink m n) m (a.length : Int) = some (m + 2 * n) := by
  intro n
  induction n with
  | zero =>
    intro a k m h0 h1 h2 hk
    obtain ⟨q, rfl⟩ : ∃ m, k = m + 1 := ⟨k - 1, by omega⟩
    simp only [laws_heldLinkS.l0]; rw [if_neg (by simp [marksLink])]; simp
  | succ n ih =>
    intro a k m h0 h1 h2 hk
    obtain ⟨q, rfl⟩ : ∃ m, k = m + 1 := ⟨k - 1, by omega⟩
    have e1 : wrap64 (m + 1) = m + 1 := w64 (by omega) (by omega)
    have e2 : wrap64 (m + 1 + 1) = m + 1 + 1 := w64 (by omega) (by omega)
    have t0 := laws_markText_f (m) (by omega) (by omega) q (by omega)
    have f := ih (a ++ [mkLink m]) q (m + 1 + 1) (by omega) (by omega) (by simp; omega) (by omega)
    rw [List.append_assoc, List.singleton_append, show (((a ++ [mkLink m]).length : Nat) : Int) = (a.length : Int) + 1 by simp] at f
    have hl : (a ++ marksLink m (n + 1)).length = a.length + (n + 1) := by rw [List.length_append, marksLink_length]
    simp only [laws_heldLinkS.l0]
    rw [if_pos (by rw [hl]; omega), if_pos (by omega), w64 (n := (a.length : Int) + 1) (by omega) (by omega), marksLink]
    simp only [e1, e2, t0, Option.bind_some, rdA133, mkLink, if_true]
    refine Eq.trans f ?_
    congr 1; omega
theorem laws_heldLinkS_f (n : Nat) (m : Int) (h0 : 0 < m) (h1 : m + 2 * n ≤ 1099511627776) (k : Nat) (hk : n + 40 < k) : laws_heldLinkS.f k (marksLink m n) m = some (m + 2 * n) := by
  unfold laws_heldLinkS.f
  have := laws_heldLinkS_run n [] k m h0 h1 (by simp; omega) hk
  simpa using this

theorem rdA127 (a : List S127) (x : S127) (b : List S127) : rd_T127 (a ++ x :: b) (a.length : Int) = x := by simp [rd_T127, List.getD]
theorem setA127 (a : List S127) (x y : S127) (b : List S127) : (a ++ x :: b).set ((a.length : Int)).toNat y = a ++ y :: b := by
  rw [show ((a.length : Int)).toNat = a.length by omega, List.set_append_right _ _ (Nat.le_refl _), Nat.sub_self, List.set_cons_zero]
theorem rdA135 (a : List S135) (x : S135) (b : List S135) : rd_T135 (a ++ x :: b) (a.length : Int) = x := by simp [rd_T135, List.getD]
theorem setA135 (a : List S135) (x y : S135) (b : List S135) : (a ++ x :: b).set ((a.length : Int)).toNat y = a ++ y :: b := by
  rw [show ((a.length : Int)).toNat = a.length by omega, List.set_append_right _ _ (Nat.le_refl _), Nat.sub_self, List.set_cons_zero]
theorem laws_szMove_f (a0 : Int) (a1 : ByteArray) (a2 : ByteArray) (a3 : Int) (left : Int) (h1 : a1.size ≤ maxLen) (h2 : a2.size ≤ maxLen) (l0 : 0 ≤ left) (l1 : left ≤ 1048576) : ∃ r, laws_szMove.f a0 a1 a2 a3 left = some r ∧ -1 ≤ r ∧ r ≤ left ∧ (0 ≤ r → 0 ≤ left ∧ (a1.size : Int) ≤ left ∧ (a2.size : Int) ≤ left) := by
  unfold laws_szMove.f
  unfold maxLen at h1 h2
  have e1 : wrap64 (left - (a1.size : Int)) = left - (a1.size : Int) := w64 (by omega) (by omega)
  simp only [e1]
  by_cases g1 : left - (a1.size : Int) < 0
  · rw [if_pos g1]; exact ⟨-1, rfl, by omega, by omega, fun h => by omega⟩
  · rw [if_neg g1]
    have e2 : wrap64 (left - (a1.size : Int) - (a2.size : Int)) = left - (a1.size : Int) - (a2.size : Int) := w64 (by omega) (by omega)
    simp only [e2]
    by_cases g2 : left - (a1.size : Int) - (a2.size : Int) < 0
    · rw [if_pos g2]; exact ⟨-1, rfl, by omega, by omega, fun h => by omega⟩
    · rw [if_neg g2]
      exact ⟨_, rfl, by omega, by omega, fun h => by omega⟩
theorem laws_szMoveS_run : ∀ (b a : List S127) (k : Nat) (left : Int), a.length + b.length ≤ 1048576 → (∀ x ∈ b, x.f1.size ≤ maxLen ∧ x.f2.size ≤ maxLen) → 0 ≤ left → left ≤ 1048576 → b.length < k →
    ∃ r, laws_szMoveS.l0 k (a ++ b) left (a.length : Int) = some r ∧ -1 ≤ r ∧ r ≤ left ∧ (0 ≤ r → ∀ x ∈ b, (x.f1.size : Int) ≤ left ∧ (x.f2.size : Int) ≤ left) := by
  intro b
  induction b with
  | nil =>
    intro a k left h0 hg l0 l1 hk
    obtain ⟨q, rfl⟩ : ∃ m, k = m + 1 := ⟨k - 1, by omega⟩
    simp only [laws_szMoveS.l0]
    rw [if_neg (by simp)]
    exact ⟨left, rfl, by omega, by omega, fun _ x hx => by simp at hx⟩
  | cons x b ih =>
    intro a k left h0 hg l0 l1 hk
    simp only [List.length_cons] at h0 hk
    obtain ⟨q, rfl⟩ : ∃ m, k = m + 1 := ⟨k - 1, by omega⟩
    simp only [laws_szMoveS.l0]
    rw [if_pos (by simp; omega), if_pos (by omega), rdA127]
    have hgx := hg x (List.mem_cons_self)
    obtain ⟨r, e, r0, r1, r2⟩ := laws_szMove_f x.f0 x.f1 x.f2 x.f3 left hgx.1 hgx.2 l0 l1
    rw [e]; simp only [Option.bind_some]
    by_cases hr : r < 0
    · rw [if_pos hr]; exact ⟨-1, rfl, by omega, by omega, fun h => by omega⟩
    · rw [if_neg hr, w64 (n := (a.length : Int) + 1) (by omega) (by omega)]
      obtain ⟨s, f, s0, s1, s2⟩ := ih (a ++ [x]) q r (by simp; omega) (fun y hy => hg y (List.mem_cons_of_mem _ hy)) (by omega) (by omega) (by omega)
      rw [List.append_assoc, List.singleton_append, show (((a ++ [x]).length : Nat) : Int) = (a.length : Int) + 1 by simp] at f
      refine ⟨s, f, s0, by omega, fun hs y hy => ?_⟩
      have r3 := r2 (by omega)
      rcases List.mem_cons.1 hy with rfl | hy
      · exact ⟨by omega, by omega⟩
      · have := s2 hs y hy
        exact ⟨by omega, by omega⟩
theorem laws_szMoveS_f (l : List S127) (left : Int) (hl : l.length ≤ maxLen) (hg : ∀ x ∈ l, x.f1.size ≤ maxLen ∧ x.f2.size ≤ maxLen) (l0 : 0 ≤ left) (l1 : left ≤ 1048576) (k : Nat) (hk : 1048577 < k) :
    ∃ r, laws_szMoveS.f k l left = some r ∧ -1 ≤ r ∧ r ≤ left ∧ (0 ≤ r → l.length ≤ 1048576 ∧ ∀ x ∈ l, x.f1.size ≤ 1048576 ∧ x.f2.size ≤ 1048576) := by
  unfold laws_szMoveS.f maxLen at *
  rw [w64 (n := left - (l.length : Int)) (by omega) (by omega)]
  by_cases h : left - (l.length : Int) < 0
  · rw [if_pos h]; exact ⟨-1, rfl, by omega, by omega, fun h => by omega⟩
  · rw [if_neg h]
    obtain ⟨r, e, r0, r1, r2⟩ := laws_szMoveS_run l [] k (left - (l.length : Int)) (by simp; omega) (fun x hx => by have := hg x hx; (unfold maxLen; exact this)) (by omega) (by omega) (by omega)
    refine ⟨r, by simpa using e, r0, by omega, fun hr => ⟨by omega, fun x hx => ?_⟩⟩
    have := r2 hr x hx
    exact ⟨by omega, by omega⟩
def cvMove (x : S127) : S135 := ⟨x.f0, x.f1, x.f2, x.f3⟩
theorem laws_toMoveS_run : ∀ (b a : List S127) (k : Nat), a.length + b.length ≤ 1048576 → b.length < k →
    laws_toMoveS.l0 k (a ++ b) (a.map cvMove ++ List.replicate b.length z135) (a.length : Int) = some ((a ++ b).map cvMove) := by
  intro b
  induction b with
  | nil =>
    intro a k h0 hk
    obtain ⟨q, rfl⟩ : ∃ m, k = m + 1 := ⟨k - 1, by omega⟩
    simp only [laws_toMoveS.l0]
    rw [if_neg (by simp)]; simp
  | cons x b ih =>
    intro a k h0 hk
    simp only [List.length_cons] at h0 hk
    obtain ⟨q, rfl⟩ : ∃ m, k = m + 1 := ⟨k - 1, by omega⟩
    simp only [laws_toMoveS.l0]
    rw [if_pos (by simp; omega), if_pos (by omega), rdA127]
    simp only [laws_toMove.f, Option.bind_some]
    rw [if_pos (by simp; omega), w64 (n := (a.length : Int) + 1) (by omega) (by omega), List.length_cons, List.replicate_succ]
    have hs := setA135 (a.map cvMove) z135 (cvMove x) (List.replicate b.length z135)
    rw [List.length_map] at hs
    rw [show (⟨x.f0, x.f1, x.f2, x.f3⟩ : S135) = cvMove x from rfl, hs]
    have f := ih (a ++ [x]) q (by simp; omega) (by omega)
    rw [List.append_assoc, List.singleton_append, show (((a ++ [x]).length : Nat) : Int) = (a.length : Int) + 1 by simp, List.map_append, List.map_singleton, List.append_assoc, List.singleton_append] at f
    exact f
theorem laws_toMoveS_f (l : List S127) (hl : l.length ≤ 1048576) (k : Nat) (hk : l.length < k) : laws_toMoveS.f k l = some (l.map cvMove) := by
  unfold laws_toMoveS.f
  rw [if_pos (by omega), show ((l.length : Int)).toNat = l.length by omega, if_pos (by omega)]
  have := laws_toMoveS_run l [] k (by simp; omega) hk
  simpa using this
theorem laws_eqMove_f (a0 : Int) (a1 : ByteArray) (a2 : ByteArray) (a3 : Int) : laws_eqMove.f a0 a1 a2 a3 a0 a1 a2 a3 = some true := by unfold laws_eqMove.f; simp
theorem laws_eqMoveS_run (l : List S135) (hl : l.length ≤ 1099511627776) : ∀ (d k : Nat) (i : Int), 0 ≤ i → i + d = l.length → d < k → laws_eqMoveS.l0 k l l i = some true := by
  intro d
  induction d with
  | zero =>
    intro k i h0 h1 hk
    obtain ⟨q, rfl⟩ : ∃ m, k = m + 1 := ⟨k - 1, by omega⟩
    simp only [laws_eqMoveS.l0]; rw [if_neg (by omega)]
  | succ d ih =>
    intro k i h0 h1 hk
    obtain ⟨q, rfl⟩ : ∃ m, k = m + 1 := ⟨k - 1, by omega⟩
    simp only [laws_eqMoveS.l0]
    rw [if_pos (by omega), if_pos h0, if_pos (by omega), laws_eqMove_f, w64 (n := i + 1) (by omega) (by omega)]
    simp only [Option.bind_some]
    rw [if_pos trivial, ih q (i + 1) (by omega) (by omega) (by omega)]
theorem laws_eqMoveS_f (l : List S135) (hl : l.length ≤ 1099511627776) (k : Nat) (hk : l.length < k) : laws_eqMoveS.f k l l = some true := by
  unfold laws_eqMoveS.f; rw [if_pos rfl]; exact laws_eqMoveS_run l hl l.length k 0 (by omega) (by omega) hk
def mkMove (m : Int) : S135 := ⟨m, mT (m + 1), mT (m + 1 + 1), m + 1 + 1 + 1⟩
def marksMove : Int → Nat → List S135
  | _, 0 => []
  | m, n + 1 => mkMove m :: marksMove (m + 1 + 1 + 1 + 1) n
theorem marksMove_length : ∀ (n : Nat) (m : Int), (marksMove m n).length = n
  | 0, _ => rfl
  | n + 1, m => by simp [marksMove, marksMove_length n]
theorem laws_markMoveS_run : ∀ (b a : List S135) (k : Nat) (m : Int), 0 < m → m + 4 * b.length ≤ 1099511627776 → a.length + b.length ≤ 1099511627776 → b.length + 40 < k →
    laws_markMoveS.l0 k (a ++ b) m (a.length : Int) = some (m + 4 * b.length, a ++ marksMove m b.length) := by
  intro b
  induction b with
  | nil =>
    intro a k m h0 h1 h2 hk
    obtain ⟨q, rfl⟩ : ∃ m, k = m + 1 := ⟨k - 1, by omega⟩
    simp only [laws_markMoveS.l0]; rw [if_neg (by simp)]; simp [marksMove]
  | cons x b ih =>
    intro a k m h0 h1 h2 hk
    simp only [List.length_cons] at h1 h2 hk
    obtain ⟨q, rfl⟩ : ∃ m, k = m + 1 := ⟨k - 1, by omega⟩
    have e1 : wrap64 (m + 1) = m + 1 := w64 (by omega) (by omega)
    have e2 : wrap64 (m + 1 + 1) = m + 1 + 1 := w64 (by omega) (by omega)
    have e3 : wrap64 (m + 1 + 1 + 1) = m + 1 + 1 + 1 := w64 (by omega) (by omega)
    have e4 : wrap64 (m + 1 + 1 + 1 + 1) = m + 1 + 1 + 1 + 1 := w64 (by omega) (by omega)
    have t1 := laws_markText_f (m + 1) (by omega) (by omega) q (by omega)
    have t2 := laws_markText_f (m + 1 + 1) (by omega) (by omega) q (by omega)
    simp only [laws_markMoveS.l0]
    rw [if_pos (by simp; omega)]
    rw [if_pos (by omega), w64 (n := (a.length : Int) + 1) (by omega) (by omega)]
    simp only [e1, e2, e3, e4, t1, t2, Option.bind_some, setA135, rdA135]
    have f := ih (a ++ [mkMove m]) q (m + 1 + 1 + 1 + 1) (by omega) (by omega) (by simp; omega) (by omega)
    rw [List.append_assoc, List.singleton_append, show (((a ++ [mkMove m]).length : Nat) : Int) = (a.length : Int) + 1 by simp] at f
    refine Eq.trans f ?_
    simp [marksMove]; omega
theorem laws_markMoveS_f (l : List S135) (m : Int) (h0 : 0 < m) (h1 : m + 4 * l.length ≤ 1099511627776) (k : Nat) (hk : l.length + 40 < k) : laws_markMoveS.f k l m = some (m + 4 * l.length, marksMove m l.length) := by
  unfold laws_markMoveS.f
  have := laws_markMoveS_run l [] k m h0 h1 (by simp; omega) hk
  simpa using this
theorem laws_heldMoveS_run : ∀ (n : Nat) (a : List S135) (k : Nat) (m : Int), 0 < m → m + 4 * n ≤ 1099511627776 → a.length + n ≤ 1099511627776 → n + 40 < k →
    laws_heldMoveS.l0 k (a ++ marksMove m n) m (a.length : Int) = some (m + 4 * n) := by
  intro n
  induction n with
  | zero =>
    intro a k m h0 h1 h2 hk
    obtain ⟨q, rfl⟩ : ∃ m, k = m + 1 := ⟨k - 1, by omega⟩
    simp only [laws_heldMoveS.l0]; rw [if_neg (by simp [marksMove])]; simp
  | succ n ih =>
    intro a k m h0 h1 h2 hk
    obtain ⟨q, rfl⟩ : ∃ m, k = m + 1 := ⟨k - 1, by omega⟩
    have e1 : wrap64 (m + 1) = m + 1 := w64 (by omega) (by omega)
    have e2 : wrap64 (m + 1 + 1) = m + 1 + 1 := w64 (by omega) (by omega)
    have e3 : wrap64 (m + 1 + 1 + 1) = m + 1 + 1 + 1 := w64 (by omega) (by omega)
    have e4 : wrap64 (m + 1 + 1 + 1 + 1) = m + 1 + 1 + 1 + 1 := w64 (by omega) (by omega)
    have t1 := laws_markText_f (m + 1) (by omega) (by omega) q (by omega)
    have t2 := laws_markText_f (m + 1 + 1) (by omega) (by omega) q (by omega)
    have f := ih (a ++ [mkMove m]) q (m + 1 + 1 + 1 + 1) (by omega) (by omega) (by simp; omega) (by omega)
    rw [List.append_assoc, List.singleton_append, show (((a ++ [mkMove m]).length : Nat) : Int) = (a.length : Int) + 1 by simp] at f
    have hl : (a ++ marksMove m (n + 1)).length = a.length + (n + 1) := by rw [List.length_append, marksMove_length]
    simp only [laws_heldMoveS.l0]
    rw [if_pos (by rw [hl]; omega), if_pos (by omega), w64 (n := (a.length : Int) + 1) (by omega) (by omega), marksMove]
    simp only [e1, e2, e3, e4, t1, t2, Option.bind_some, rdA135, mkMove, if_true]
    refine Eq.trans f ?_
    congr 1; omega
theorem laws_heldMoveS_f (n : Nat) (m : Int) (h0 : 0 < m) (h1 : m + 4 * n ≤ 1099511627776) (k : Nat) (hk : n + 40 < k) : laws_heldMoveS.f k (marksMove m n) m = some (m + 4 * n) := by
  unfold laws_heldMoveS.f
  have := laws_heldMoveS_run n [] k m h0 h1 (by simp; omega) hk
  simpa using this

theorem rdA28 (a : List S28) (x : S28) (b : List S28) : rd_T28 (a ++ x :: b) (a.length : Int) = x := by simp [rd_T28, List.getD]
theorem setA28 (a : List S28) (x y : S28) (b : List S28) : (a ++ x :: b).set ((a.length : Int)).toNat y = a ++ y :: b := by
  rw [show ((a.length : Int)).toNat = a.length by omega, List.set_append_right _ _ (Nat.le_refl _), Nat.sub_self, List.set_cons_zero]
theorem rdA39 (a : List S39) (x : S39) (b : List S39) : rd_T39 (a ++ x :: b) (a.length : Int) = x := by simp [rd_T39, List.getD]
theorem setA39 (a : List S39) (x y : S39) (b : List S39) : (a ++ x :: b).set ((a.length : Int)).toNat y = a ++ y :: b := by
  rw [show ((a.length : Int)).toNat = a.length by omega, List.set_append_right _ _ (Nat.le_refl _), Nat.sub_self, List.set_cons_zero]
theorem laws_szStep_f (a0 : Int) (a1 : ByteArray) (a2 : ByteArray) (a3 : ByteArray) (left : Int) (h1 : a1.size ≤ maxLen) (h2 : a2.size ≤ maxLen) (h3 : a3.size ≤ maxLen) (l0 : 0 ≤ left) (l1 : left ≤ 1048576) : ∃ r, laws_szStep.f a0 a1 a2 a3 left = some r ∧ -1 ≤ r ∧ r ≤ left ∧ (0 ≤ r → 0 ≤ left ∧ (a1.size : Int) ≤ left ∧ (a2.size : Int) ≤ left ∧ (a3.size : Int) ≤ left) := by
  unfold laws_szStep.f
  unfold maxLen at h1 h2 h3
  have e1 : wrap64 (left - (a1.size : Int)) = left - (a1.size : Int) := w64 (by omega) (by omega)
  simp only [e1]
  by_cases g1 : left - (a1.size : Int) < 0
  · rw [if_pos g1]; exact ⟨-1, rfl, by omega, by omega, fun h => by omega⟩
  · rw [if_neg g1]
    have e2 : wrap64 (left - (a1.size : Int) - (a2.size : Int)) = left - (a1.size : Int) - (a2.size : Int) := w64 (by omega) (by omega)
    simp only [e2]
    by_cases g2 : left - (a1.size : Int) - (a2.size : Int) < 0
    · rw [if_pos g2]; exact ⟨-1, rfl, by omega, by omega, fun h => by omega⟩
    · rw [if_neg g2]
      have e3 : wrap64 (left - (a1.size : Int) - (a2.size : Int) - (a3.size : Int)) = left - (a1.size : Int) - (a2.size : Int) - (a3.size : Int) := w64 (by omega) (by omega)
      simp only [e3]
      by_cases g3 : left - (a1.size : Int) - (a2.size : Int) - (a3.size : Int) < 0
      · rw [if_pos g3]; exact ⟨-1, rfl, by omega, by omega, fun h => by omega⟩
      · rw [if_neg g3]
        exact ⟨_, rfl, by omega, by omega, fun h => by omega⟩
theorem laws_szStepS_run : ∀ (b a : List S28) (k : Nat) (left : Int), a.length + b.length ≤ 1048576 → (∀ x ∈ b, x.f1.size ≤ maxLen ∧ x.f2.size ≤ maxLen ∧ x.f3.size ≤ maxLen) → 0 ≤ left → left ≤ 1048576 → b.length < k →
    ∃ r, laws_szStepS.l0 k (a ++ b) left (a.length : Int) = some r ∧ -1 ≤ r ∧ r ≤ left ∧ (0 ≤ r → ∀ x ∈ b, (x.f1.size : Int) ≤ left ∧ (x.f2.size : Int) ≤ left ∧ (x.f3.size : Int) ≤ left) := by
  intro b
  induction b with
  | nil =>
    intro a k left h0 hg l0 l1 hk
    obtain ⟨q, rfl⟩ : ∃ m, k = m + 1 := ⟨k - 1, by omega⟩
    simp only [laws_szStepS.l0]
    rw [if_neg (by simp)]
    exact ⟨left, rfl, by omega, by omega, fun _ x hx => by simp at hx⟩
  | cons x b ih =>
    intro a k left h0 hg l0 l1 hk
    simp only [List.length_cons] at h0 hk
    obtain ⟨q, rfl⟩ : ∃ m, k = m + 1 := ⟨k - 1, by omega⟩
    simp only [laws_szStepS.l0]
    rw [if_pos (by simp; omega), if_pos (by omega), rdA28]
    have hgx := hg x (List.mem_cons_self)
    obtain ⟨r, e, r0, r1, r2⟩ := laws_szStep_f x.f0 x.f1 x.f2 x.f3 left hgx.1 hgx.2.1 hgx.2.2 l0 l1
    rw [e]; simp only [Option.bind_some]
    by_cases hr : r < 0
    · rw [if_pos hr]; exact ⟨-1, rfl, by omega, by omega, fun h => by omega⟩
    · rw [if_neg hr, w64 (n := (a.length : Int) + 1) (by omega) (by omega)]
      obtain ⟨s, f, s0, s1, s2⟩ := ih (a ++ [x]) q r (by simp; omega) (fun y hy => hg y (List.mem_cons_of_mem _ hy)) (by omega) (by omega) (by omega)
      rw [List.append_assoc, List.singleton_append, show (((a ++ [x]).length : Nat) : Int) = (a.length : Int) + 1 by simp] at f
      refine ⟨s, f, s0, by omega, fun hs y hy => ?_⟩
      have r3 := r2 (by omega)
      rcases List.mem_cons.1 hy with rfl | hy
      · exact ⟨by omega, by omega, by omega⟩
      · have := s2 hs y hy
        exact ⟨by omega, by omega, by omega⟩
theorem laws_szStepS_f (l : List S28) (left : Int) (hl : l.length ≤ maxLen) (hg : ∀ x ∈ l, x.f1.size ≤ maxLen ∧ x.f2.size ≤ maxLen ∧ x.f3.size ≤ maxLen) (l0 : 0 ≤ left) (l1 : left ≤ 1048576) (k : Nat) (hk : 1048577 < k) :
    ∃ r, laws_szStepS.f k l left = some r ∧ -1 ≤ r ∧ r ≤ left ∧ (0 ≤ r → l.length ≤ 1048576 ∧ ∀ x ∈ l, x.f1.size ≤ 1048576 ∧ x.f2.size ≤ 1048576 ∧ x.f3.size ≤ 1048576) := by
  unfold laws_szStepS.f maxLen at *
  rw [w64 (n := left - (l.length : Int)) (by omega) (by omega)]
  by_cases h : left - (l.length : Int) < 0
  · rw [if_pos h]; exact ⟨-1, rfl, by omega, by omega, fun h => by omega⟩
  · rw [if_neg h]
    obtain ⟨r, e, r0, r1, r2⟩ := laws_szStepS_run l [] k (left - (l.length : Int)) (by simp; omega) (fun x hx => by have := hg x hx; (unfold maxLen; exact this)) (by omega) (by omega) (by omega)
    refine ⟨r, by simpa using e, r0, by omega, fun hr => ⟨by omega, fun x hx => ?_⟩⟩
    have := r2 hr x hx
    exact ⟨by omega, by omega, by omega⟩
def cvStep (x : S28) : S39 := ⟨x.f0, x.f1, x.f2, x.f3⟩
theorem laws_toStepS_run : ∀ (b a : List S28) (k : Nat), a.length + b.length ≤ 1048576 → b.length < k →
    laws_toStepS.l0 k (a ++ b) (a.map cvStep ++ List.replicate b.length z39) (a.length : Int) = some ((a ++ b).map cvStep) := by
  intro b
  induction b with
  | nil =>
    intro a k h0 hk
    obtain ⟨q, rfl⟩ : ∃ m, k = m + 1 := ⟨k - 1, by omega⟩
    simp only [laws_toStepS.l0]
    rw [if_neg (by simp)]; simp
  | cons x b ih =>
    intro a k h0 hk
    simp only [List.length_cons] at h0 hk
    obtain ⟨q, rfl⟩ : ∃ m, k = m + 1 := ⟨k - 1, by omega⟩
    simp only [laws_toStepS.l0]
    rw [if_pos (by simp; omega), if_pos (by omega), rdA28]
    simp only [laws_toStep.f, Option.bind_some]
    rw [if_pos (by simp; omega), w64 (n := (a.length : Int) + 1) (by omega) (by omega), List.length_cons, List.replicate_succ]
    have hs := setA39 (a.map cvStep) z39 (cvStep x) (List.replicate b.length z39)
    rw [List.length_map] at hs
    rw [show (⟨x.f0, x.f1, x.f2, x.f3⟩ : S39) = cvStep x from rfl, hs]
    have f := ih (a ++ [x]) q (by simp; omega) (by omega)
    rw [List.append_assoc, List.singleton_append, show (((a ++ [x]).length : Nat) : Int) = (a.length : Int) + 1 by simp, List.map_append, List.map_singleton, List.append_assoc, List.singleton_append] at f
    exact f
theorem laws_toStepS_f (l : List S28) (hl : l.length ≤ 1048576) (k : Nat) (hk : l.length < k) : laws_toStepS.f k l = some (l.map cvStep) := by
  unfold laws_toStepS.f
  rw [if_pos (by omega), show ((l.length : Int)).toNat = l.length by omega, if_pos (by omega)]
  have := laws_toStepS_run l [] k (by simp; omega) hk
  simpa using this
theorem laws_eqStep_f (a0 : Int) (a1 : ByteArray) (a2 : ByteArray) (a3 : ByteArray) : laws_eqStep.f a0 a1 a2 a3 a0 a1 a2 a3 = some true := by unfold laws_eqStep.f; simp
theorem laws_eqStepS_run (l : List S39) (hl : l.length ≤ 1099511627776) : ∀ (d k : Nat) (i : Int), 0 ≤ i → i + d = l.length → d < k → laws_eqStepS.l0 k l l i = some true := by
  intro d
  induction d with
  | zero =>
    intro k i h0 h1 hk
    obtain ⟨q, rfl⟩ : ∃ m, k = m + 1 := ⟨k - 1, by omega⟩
    simp only [laws_eqStepS.l0]; rw [if_neg (by omega)]
  | succ d ih =>
    intro k i h0 h1 hk
    obtain ⟨q, rfl⟩ : ∃ m, k = m + 1 := ⟨k - 1, by omega⟩
    simp only [laws_eqStepS.l0]
    rw [if_pos (by omega), if_pos h0, if_pos (by omega), laws_eqStep_f, w64 (n := i + 1) (by omega) (by omega)]
    simp only [Option.bind_some]
    rw [if_pos trivial, ih q (i + 1) (by omega) (by omega) (by omega)]
theorem laws_eqStepS_f (l : List S39) (hl : l.length ≤ 1099511627776) (k : Nat) (hk : l.length < k) : laws_eqStepS.f k l l = some true := by
  unfold laws_eqStepS.f; rw [if_pos rfl]; exact laws_eqStepS_run l hl l.length k 0 (by omega) (by omega) hk
def mkStep (m : Int) : S39 := ⟨m, mT (m + 1), mT (m + 1 + 1), mT (m + 1 + 1 + 1)⟩
def marksStep : Int → Nat → List S39
  | _, 0 => []
  | m, n + 1 => mkStep m :: marksStep (m + 1 + 1 + 1 + 1) n
theorem marksStep_length : ∀ (n : Nat) (m : Int), (marksStep m n).length = n
  | 0, _ => rfl
  | n + 1, m => by simp [marksStep, marksStep_length n]
theorem laws_markStepS_run : ∀ (b a : List S39) (k : Nat) (m : Int), 0 < m → m + 4 * b.length ≤ 1099511627776 → a.length + b.length ≤ 1099511627776 → b.length + 40 < k →
    laws_markStepS.l0 k (a ++ b) m (a.length : Int) = some (m + 4 * b.length, a ++ marksStep m b.length) := by
  intro b
  induction b with
  | nil =>
    intro a k m h0 h1 h2 hk
    obtain ⟨q, rfl⟩ : ∃ m, k = m + 1 := ⟨k - 1, by omega⟩
    simp only [laws_markStepS.l0]; rw [if_neg (by simp)]; simp [marksStep]
  | cons x b ih =>
    intro a k m h0 h1 h2 hk
    simp only [List.length_cons] at h1 h2 hk
    obtain ⟨q, rfl⟩ : ∃ m, k = m + 1 := ⟨k - 1, by omega⟩
    have e1 : wrap64 (m + 1) = m + 1 := w64 (by omega) (by omega)
    have e2 : wrap64 (m + 1 + 1) = m + 1 + 1 := w64 (by omega) (by omega)
    have e3 : wrap64 (m + 1 + 1 + 1) = m + 1 + 1 + 1 := w64 (by omega) (by omega)
    have e4 : wrap64 (m + 1 + 1 + 1 + 1) = m + 1 + 1 + 1 + 1 := w64 (by omega) (by omega)
    have t1 := laws_markText_f (m + 1) (by omega) (by omega) q (by omega)
    have t2 := laws_markText_f (m + 1 + 1) (by omega) (by omega) q (by omega)
    have t3 := laws_markText_f (m + 1 + 1 + 1) (by omega) (by omega) q (by omega)
    simp only [laws_markStepS.l0]
    rw [if_pos (by simp; omega)]
    rw [if_pos (by omega), w64 (n := (a.length : Int) + 1) (by omega) (by omega)]
    simp only [e1, e2, e3, e4, t1, t2, t3, Option.bind_some, setA39, rdA39]
    have f := ih (a ++ [mkStep m]) q (m + 1 + 1 + 1 + 1) (by omega) (by omega) (by simp; omega) (by omega)
    rw [List.append_assoc, List.singleton_append, show (((a ++ [mkStep m]).length : Nat) : Int) = (a.length : Int) + 1 by simp] at f
    refine Eq.trans f ?_
    simp [marksStep]; omega
theorem laws_markStepS_f (l : List S39) (m : Int) (h0 : 0 < m) (h1 : m + 4 * l.length ≤ 1099511627776) (k : Nat) (hk : l.length + 40 < k) : laws_markStepS.f k l m = some (m + 4 * l.length, marksStep m l.length) := by
  unfold laws_markStepS.f
  have := laws_markStepS_run l [] k m h0 h1 (by simp; omega) hk
  simpa using this

/-! names in order -/
theorem cb_self : ∀ a : List UInt8, Lib.compareBytes a a = 0
  | [] => rfl
  | x :: a => by rw [Lib.compareBytes, if_neg (UInt8.lt_irrefl x), if_neg (UInt8.lt_irrefl x)]; exact cb_self a
theorem cb_eq : ∀ {a b : List UInt8}, Lib.compareBytes a b = 0 → a = b
  | [], [], _ => rfl
  | [], _ :: _, h => by simp [Lib.compareBytes] at h
  | _ :: _, [], h => by simp [Lib.compareBytes] at h
  | x :: a, y :: b, h => by
    rw [Lib.compareBytes] at h
    by_cases h1 : x < y
    · rw [if_pos h1] at h; omega
    · rw [if_neg h1] at h
      by_cases h2 : y < x
      · rw [if_pos h2] at h; omega
      · rw [if_neg h2] at h
        rw [cb_eq h, UInt8.le_antisymm (UInt8.not_lt.1 h2) (UInt8.not_lt.1 h1)]
theorem cb_swap : ∀ (a b : List UInt8), Lib.compareBytes b a = - Lib.compareBytes a b
  | [], [] => rfl
  | [], _ :: _ => rfl
  | _ :: _, [] => rfl
  | x :: a, y :: b => by
    rw [Lib.compareBytes, Lib.compareBytes]
    by_cases h1 : x < y
    · rw [if_neg (UInt8.lt_asymm h1), if_pos h1, if_pos h1]; rfl
    · rw [if_neg h1]
      by_cases h2 : y < x
      · rw [if_pos h2, if_neg h1, if_pos h2]
      · rw [if_neg h2, if_neg h1, if_neg h2]; exact cb_swap a b
theorem cb_trans : ∀ {a b c : List UInt8}, Lib.compareBytes a b < 0 → Lib.compareBytes b c < 0 → Lib.compareBytes a c < 0
  | [], [], _, h, _ => by simp [Lib.compareBytes] at h
  | [], _ :: _, [], _, h => by simp [Lib.compareBytes] at h
  | [], _ :: _, _ :: _, _, _ => by simp [Lib.compareBytes]
  | _ :: _, [], _, h, _ => by simp [Lib.compareBytes] at h
  | _ :: _, _ :: _, [], _, h => by simp [Lib.compareBytes] at h
  | x :: a, y :: b, z :: c, h, g => by
    rw [Lib.compareBytes] at h g ⊢
    by_cases h1 : x < y
    · by_cases g1 : y < z
      · rw [if_pos (UInt8.lt_trans h1 g1)]; omega
      · rw [if_neg g1] at g
        by_cases g2 : z < y
        · rw [if_pos g2] at g; omega
        · have e : y = z := UInt8.le_antisymm (UInt8.not_lt.1 g2) (UInt8.not_lt.1 g1)
          subst e
          rw [if_pos h1]; omega
    · rw [if_neg h1] at h
      by_cases h2 : y < x
      · rw [if_pos h2] at h; omega
      · rw [if_neg h2] at h
        have e : x = y := UInt8.le_antisymm (UInt8.not_lt.1 h2) (UInt8.not_lt.1 h1)
        subst e
        by_cases g1 : x < z
        · rw [if_pos g1]; omega
        · rw [if_neg g1] at g ⊢
          by_cases g2 : z < x
          · rw [if_pos g2] at g; omega
          · rw [if_neg g2] at g ⊢; exact cb_trans h g
theorem cs_self (a : ByteArray) : cmpS a a = 0 := cb_self _
theorem cs_eq {a b : ByteArray} (h : cmpS a b = 0) : a = b := ByteArray.ext (Array.toList_inj.1 (cb_eq h))
theorem cs_swap (a b : ByteArray) : cmpS b a = - cmpS a b := cb_swap _ _
theorem cs_trans {a b c : ByteArray} (h : cmpS a b < 0) (g : cmpS b c < 0) : cmpS a c < 0 := cb_trans h g
theorem cs_ne {a b : ByteArray} (h : cmpS a b < 0) : a ≠ b := fun e => by rw [e, cs_self] at h; omega
abbrev Lk := S133
def Srt (l : List Lk) : Prop := l.Pairwise fun x y => cmpS x.f0 y.f0 < 0
theorem srt_cons {x : Lk} {l : List Lk} : Srt (x :: l) ↔ (∀ y ∈ l, cmpS x.f0 y.f0 < 0) ∧ Srt l := List.pairwise_cons
theorem srt_nil : Srt [] := List.Pairwise.nil
def posM : List Lk → ByteArray → Nat
  | [], _ => 0
  | x :: r, s => if cmpS x.f0 s < 0 then posM r s + 1 else 0
def idM : List Lk → ByteArray → Option Int
  | [], _ => none
  | x :: r, s => if x.f0 = s then some x.f1 else idM r s
theorem posM_le : ∀ (l : List Lk) (s : ByteArray), posM l s ≤ l.length
  | [], _ => Nat.le_refl _
  | x :: r, s => by rw [posM]; split <;> simp; exact posM_le r s
theorem rdL_cons (x : Lk) (r : List Lk) (i : Int) (h : 0 < i) : rd_T133 (x :: r) i = rd_T133 r (i - 1) := by
  unfold rd_T133
  rw [show i.toNat = (i - 1).toNat + 1 by omega]; rfl
theorem posM_lt : ∀ (l : List Lk) (s : ByteArray), Srt l → ∀ i : Int, 0 ≤ i → i < (l.length : Int) → (cmpS (rd_T133 l i).f0 s < 0 ↔ i < (posM l s : Int))
  | [], s, _, i, h0, h1 => by simp at h1; omega
  | x :: r, s, hs, i, h0, h1 => by
    obtain ⟨hx, hr⟩ := srt_cons.1 hs
    rw [List.length_cons] at h1
    rw [posM]
    by_cases hi : i = 0
    · subst hi
      have e : rd_T133 (x :: r) 0 = x := rfl
      rw [e]
      by_cases c : cmpS x.f0 s < 0
      · rw [if_pos c]; exact ⟨fun _ => by omega, fun _ => c⟩
      · rw [if_neg c]; exact ⟨fun h => absurd h c, fun h => by omega⟩
    · rw [rdL_cons x r i (by omega)]
      have ih := posM_lt r s hr (i - 1) (by omega) (by omega)
      by_cases c : cmpS x.f0 s < 0
      · rw [if_pos c, ih]; omega
      · rw [if_neg c]
        refine ⟨fun h => ?_, fun h => by omega⟩
        exfalso
        have hm : rd_T133 r (i - 1) ∈ r := by
          unfold rd_T133
          rw [List.getD_eq_getElem?_getD, List.getElem?_eq_getElem (by omega)]
          exact List.getElem_mem _
        exact c (cs_trans (hx _ hm) h)
theorem bsn_pos (l : List Lk) (s : ByteArray) (hs : Srt l) : ∀ (k : Nat) (i j : Int), 0 ≤ i → i ≤ (posM l s : Int) → (posM l s : Int) ≤ j → j ≤ (l.length : Int) → j - i ≤ k → bsn l s k i j = (posM l s : Int)
  | 0, i, j, h0, h1, h2, h3, h4 => by simp only [bsn]; omega
  | k + 1, i, j, h0, h1, h2, h3, h4 => by
    simp only [bsn]
    by_cases c : i < j
    · rw [if_pos c]
      have e := posM_lt l s hs ((i + j) / 2) (by omega) (by omega)
      by_cases c2 : cmpS (rd_T133 l ((i + j) / 2)).f0 s < 0
      · rw [if_pos c2]
        have := e.1 c2
        exact bsn_pos l s hs k _ _ (by omega) (by omega) h2 h3 (by omega)
      · rw [if_neg c2]
        have : ¬ ((i + j) / 2 < (posM l s : Int)) := fun h => c2 (e.2 h)
        exact bsn_pos l s hs k _ _ h0 h1 (by omega) (by omega) (by omega)
    · rw [if_neg c]; omega
theorem idM_none : ∀ (l : List Lk) (s : ByteArray), (∀ y ∈ l, y.f0 ≠ s) → idM l s = none
  | [], _, _ => rfl
  | x :: r, s, h => by rw [idM, if_neg (h x List.mem_cons_self)]; exact idM_none r s (fun y hy => h y (List.mem_cons_of_mem _ hy))
theorem idM_no : ∀ (l : List Lk) (s : ByteArray), idM l s = none → ∀ y ∈ l, y.f0 ≠ s
  | [], _, _, y, hy => by cases hy
  | x :: r, s, h, y, hy => by
    rw [idM] at h
    by_cases c : x.f0 = s
    · rw [if_pos c] at h; cases h
    · rw [if_neg c] at h
      rcases List.mem_cons.1 hy with rfl | hy
      · exact c
      · exact idM_no r s h y hy
theorem pos_id : ∀ (l : List Lk) (s : ByteArray), Srt l → (match idM l s with
    | some i => posM l s < l.length ∧ rd_T133 l (posM l s : Int) = ⟨s, i⟩
    | none => ¬ (posM l s < l.length ∧ cmpS (rd_T133 l (posM l s : Int)).f0 s = 0))
  | [], s, _ => by simp [idM, posM]
  | x :: r, s, hs => by
    obtain ⟨hx, hr⟩ := srt_cons.1 hs
    have ih := pos_id r s hr
    rw [idM, posM]
    by_cases c : cmpS x.f0 s < 0
    · rw [if_pos c, if_neg (cs_ne c)]
      rw [show (((posM r s + 1 : Nat)) : Int) = (posM r s : Int) + 1 by omega, rdL_cons x r _ (by omega), show (posM r s : Int) + 1 - 1 = (posM r s : Int) by omega, List.length_cons]
      cases hd : idM r s with
      | some i => rw [hd] at ih; exact ⟨by have := ih.1; omega, ih.2⟩
      | none => rw [hd] at ih; exact fun h => ih ⟨by have := h.1; omega, h.2⟩
    · rw [if_neg c]
      have e : rd_T133 (x :: r) ((0 : Nat) : Int) = x := rfl
      rw [e]
      by_cases c2 : x.f0 = s
      · rw [if_pos c2]
        refine ⟨by simp, ?_⟩
        rw [← c2]
      · rw [if_neg c2]
        have hn : idM r s = none := idM_none r s (fun y hy he => by
          have h1 := hx y hy
          rw [he] at h1
          exact c h1)
        rw [hn]
        exact fun h => c2 (cs_eq h.2)
def insR : List Lk → Lk → List Lk
  | [], x => [x]
  | y :: r, x => if cmpS y.f0 x.f0 < 0 then y :: insR r x else x :: y :: r
theorem insR_eq : ∀ (l : List Lk) (x : Lk), l.take (posM l x.f0) ++ x :: l.drop (posM l x.f0) = insR l x
  | [], x => rfl
  | y :: r, x => by
    rw [insR, posM]
    by_cases c : cmpS y.f0 x.f0 < 0
    · rw [if_pos c, if_pos c, List.take_succ_cons, List.drop_succ_cons, List.cons_append, insR_eq r x]
    · rw [if_neg c, if_neg c]; rfl
theorem insR_mem : ∀ (l : List Lk) (x y : Lk), y ∈ insR l x ↔ y = x ∨ y ∈ l
  | [], x, y => by simp [insR]
  | z :: r, x, y => by
    rw [insR]
    split
    · rw [List.mem_cons, insR_mem r x y, List.mem_cons]; exact ⟨fun h => by rcases h with h | h | h <;> simp [h], fun h => by rcases h with h | h | h <;> simp [h]⟩
    · rw [List.mem_cons]
theorem insR_length : ∀ (l : List Lk) (x : Lk), (insR l x).length = l.length + 1
  | [], x => rfl
  | z :: r, x => by
    rw [insR]
    split
    · rw [List.length_cons, insR_length r x, List.length_cons]
    · simp
theorem insR_srt : ∀ (l : List Lk) (x : Lk), Srt l → (∀ y ∈ l, y.f0 ≠ x.f0) → Srt (insR l x)
  | [], x, _, _ => srt_cons.2 ⟨fun y hy => (by cases hy), srt_nil⟩
  | y :: r, x, hs, hn => by
    obtain ⟨hy, hr⟩ := srt_cons.1 hs
    rw [insR]
    by_cases c : cmpS y.f0 x.f0 < 0
    · rw [if_pos c]
      refine srt_cons.2 ⟨fun z hz => ?_, insR_srt r x hr (fun z hz => hn z (List.mem_cons_of_mem _ hz))⟩
      rcases (insR_mem r x z).1 hz with rfl | hz
      · exact c
      · exact hy z hz
    · rw [if_neg c]
      have h1 : cmpS x.f0 y.f0 < 0 := by
        have h2 := cs_swap y.f0 x.f0
        have h3 : cmpS y.f0 x.f0 ≠ 0 := fun h => hn y List.mem_cons_self (cs_eq h)
        omega
      refine srt_cons.2 ⟨fun z hz => ?_, hs⟩
      rcases List.mem_cons.1 hz with rfl | hz
      · exact h1
      · exact cs_trans h1 (hy z hz)
theorem delM_ne (s : ByteArray) (l : List Lk) : ∀ y ∈ delM s l, y.f0 ≠ s := by
  intro y hy he
  unfold delM at hy
  have := (List.mem_filter.1 hy).2
  rw [he] at this
  simp at this
theorem delM_mem (s : ByteArray) (l : List Lk) (y : Lk) (h : y ∈ delM s l) : y ∈ l := by
  unfold delM at h; exact (List.mem_filter.1 h).1
theorem delM_srt (s : ByteArray) {l : List Lk} (h : Srt l) : Srt (delM s l) := List.Pairwise.filter _ h
theorem delM_length (s : ByteArray) (l : List Lk) : (delM s l).length ≤ l.length := List.length_filter_le _ _

/-! the disk, plainly -/
theorem nodup_le : ∀ (a b : List Int), a.Nodup → (∀ x ∈ a, x ∈ b) → a.length ≤ b.length
  | [], b, _, _ => Nat.zero_le _
  | x :: a, b, hn, h => by
    obtain ⟨h1, h2⟩ := List.nodup_cons.1 hn
    have hx := h x List.mem_cons_self
    have e := List.length_erase_of_mem hx
    have hp := List.length_pos_of_mem hx
    have ih := nodup_le a (b.erase x) h2 (fun y hy => (List.mem_erase_of_ne (fun e => h1 (by rw [← e]; exact hy))).2 (h y (List.mem_cons_of_mem _ hy)))
    rw [List.length_cons]; omega
theorem nodup_all {a b : List Int} (ha : a.Nodup) (hb : b.Nodup) (h : ∀ x ∈ a, x ∈ b) : a.length = b.length ↔ ∀ y ∈ b, y ∈ a := by
  constructor
  · intro e y hy
    by_cases c : y ∈ a
    · exact c
    · have := nodup_le (y :: a) b (List.nodup_cons.2 ⟨c, ha⟩) (fun x hx => by
        rcases List.mem_cons.1 hx with rfl | hx
        · exact hy
        · exact h x hx)
      rw [List.length_cons] at this; omega
  · intro g
    have h1 := nodup_le a b ha h
    have h2 := nodup_le b a hb g
    omega
abbrev Nd := S130
abbrev Mv := S135
def nameB (b : Int) : Bool := decide ((97 ≤ b ∧ b ≤ 122) ∨ (48 ≤ b ∧ b ≤ 57) ∨ b = 46)
def nameM (s : ByteArray) : Bool := decide (1 ≤ (s.size : Int) ∧ (s.size : Int) ≤ 12) && (bytesOf s).all nameB
def appM (l : List Lk) (m : Mv) : Option (List Lk) :=
  if nameM m.f1 = true then
    if m.f0 = 1 then (if idM l m.f1 = none ∧ m.f2.size = 0 then some (insR (delM m.f1 l) ⟨m.f1, m.f3⟩) else none)
    else if m.f0 = 2 then (match idM l m.f1 with
      | some i => if m.f3 = 0 ∧ nameM m.f2 = true ∧ m.f2 ≠ m.f1 then some (insR (delM m.f2 (delM m.f1 l)) ⟨m.f2, i⟩) else none
      | none => none)
    else if m.f0 = 3 then (if idM l m.f1 ≠ none ∧ m.f2.size = 0 ∧ m.f3 = 0 then some (delM m.f1 l) else none)
    else none
  else none
theorem appM_srt {l l' : List Lk} {m : Mv} (hs : Srt l) (h : appM l m = some l') : Srt l' := by
  unfold appM at h
  split at h
  · split at h
    · split at h
      · cases h; exact insR_srt _ _ (delM_srt _ hs) (delM_ne _ _)
      · cases h
    · split at h
      · split at h
        · split at h
          · cases h; exact insR_srt _ _ (delM_srt _ (delM_srt _ hs)) (delM_ne _ _)
          · cases h
        · cases h
      · split at h
        · split at h
          · cases h; exact delM_srt _ hs
          · cases h
        · cases h
  · cases h
theorem appM_length {l l' : List Lk} {m : Mv} (h : appM l m = some l') : l'.length ≤ l.length + 1 := by
  unfold appM at h
  split at h
  · split at h
    · split at h
      · cases h; rw [insR_length]; have := delM_length m.f1 l; omega
      · cases h
    · split at h
      · split at h
        · split at h
          · cases h; rw [insR_length]; have := delM_length m.f1 l; have := delM_length m.f2 (delM m.f1 l); omega
          · cases h
        · cases h
      · split at h
        · split at h
          · cases h; have := delM_length m.f1 l; omega
          · cases h
        · cases h
  · cases h
/-- all moves fit -/
def movM : List Lk → List Mv → Option (List Lk)
  | l, [] => some l
  | l, m :: r => (appM l m).bind fun l' => movM l' r
theorem movM_snoc : ∀ (a : List Mv) (l : List Lk) (m : Mv), movM l (a ++ [m]) = (movM l a).bind fun l' => appM l' m
  | [], l, m => by simp [movM]
  | x :: a, l, m => by
    rw [List.cons_append, movM, movM]
    cases appM l x with
    | none => rfl
    | some l' => exact movM_snoc a l' m
theorem movM_srt : ∀ (ms : List Mv) {l l' : List Lk}, Srt l → movM l ms = some l' → Srt l' ∧ l'.length ≤ l.length + ms.length
  | [], l, l', hs, h => by cases h; exact ⟨hs, by simp⟩
  | m :: r, l, l', hs, h => by
    rw [movM] at h
    cases e : appM l m with
    | none => rw [e] at h; cases h
    | some l1 =>
      rw [e] at h
      obtain ⟨q1, q2⟩ := movM_srt r (appM_srt hs e) h
      have := appM_length e
      rw [List.length_cons]
      exact ⟨q1, by omega⟩
def hasM (l : List Nd) (i : Int) : Bool := l.any fun x => decide (x.f0 = i)
def dirR (nd : List Nd) : Option ByteArray → List Int → List Lk → Bool
  | _, _, [] => true
  | p, own, x :: r => nameM x.f0 && (match p with | none => true | some q => decide (cmpS q x.f0 < 0)) && hasM nd x.f1 && !(decide (x.f1 ∈ own)) && dirR nd (some x.f0) (own ++ [x.f1]) r
theorem dirR_srt (nd : List Nd) : ∀ (l : List Lk) (p : Option ByteArray) (own : List Int), dirR nd p own l = true → Srt l ∧ (∀ q, p = some q → ∀ y ∈ l, cmpS q y.f0 < 0) ∧ (∀ y ∈ l, hasM nd y.f1 = true) ∧ (own.Nodup → (own ++ l.map fun y => y.f1).Nodup)
  | [], p, own, _ => ⟨srt_nil, fun _ _ y hy => (by cases hy), fun y hy => (by cases hy), fun h => by simpa using h⟩
  | x :: r, p, own, h => by
    unfold dirR at h
    simp only [Bool.and_eq_true, Bool.not_eq_true', decide_eq_false_iff_not] at h
    obtain ⟨⟨⟨⟨h1, h2⟩, h3⟩, h4⟩, h5⟩ := h
    obtain ⟨g1, g2, g3, g4⟩ := dirR_srt nd r (some x.f0) (own ++ [x.f1]) h5
    refine ⟨srt_cons.2 ⟨g2 x.f0 rfl, g1⟩, ?_, ?_, ?_⟩
    · intro q hq y hy
      subst hq
      simp only [decide_eq_true_eq] at h2
      rcases List.mem_cons.1 hy with rfl | hy
      · exact h2
      · exact cs_trans h2 (g2 _ rfl y hy)
    · intro y hy
      rcases List.mem_cons.1 hy with rfl | hy
      · exact h3
      · exact g3 y hy
    · intro hn
      have := g4 (List.nodup_append.2 ⟨hn, by simp, fun a ha b hb e => by
        rw [List.mem_singleton.1 hb] at e
        exact h4 (by rw [← e]; exact ha)⟩)
      simpa using this
/-- the moves, with what is owned -/
def mvsR (nd : List Nd) : List Int → List Lk → List Mv → Option (List Int)
  | own, _, [] => some own
  | own, l, m :: r => match appM l m with
    | none => none
    | some l' => if m.f0 = 1 then (if hasM nd m.f3 = true ∧ m.f3 ∉ own then mvsR nd (own ++ [m.f3]) l' r else none) else mvsR nd own l' r
def madeM (ms : List Mv) : List Int := (ms.filter fun m => decide (m.f0 = 1)).map fun m => m.f3
theorem mvsR_own (nd : List Nd) : ∀ (ms : List Mv) (own : List Int) (l : List Lk) (o : List Int), mvsR nd own l ms = some o → o = own ++ madeM ms ∧ (own.Nodup → o.Nodup) ∧ ((∀ x ∈ own, hasM nd x = true) → ∀ x ∈ o, hasM nd x = true) ∧ (movM l ms).isSome = true
  | [], own, l, o, h => by cases h; exact ⟨by simp [madeM], id, id, rfl⟩
  | m :: r, own, l, o, h => by
    rw [mvsR] at h
    cases e : appM l m with
    | none => rw [e] at h; cases h
    | some l' =>
      rw [e] at h
      simp only [] at h
      by_cases c : m.f0 = 1
      · rw [if_pos c] at h
        by_cases c2 : hasM nd m.f3 = true ∧ m.f3 ∉ own
        · rw [if_pos c2] at h
          obtain ⟨h1, h2, h3, h4⟩ := mvsR_own nd r _ l' o h
          refine ⟨by rw [h1]; simp [madeM, c], fun hn => h2 ?_, fun ha => h3 ?_, by rw [movM, e]; exact h4⟩
          · exact List.nodup_append.2 ⟨hn, by simp, fun a ha b hb e => by
              rw [List.mem_singleton.1 hb] at e
              exact c2.2 (by rw [← e]; exact ha)⟩
          · intro x hx
            rcases List.mem_append.1 hx with hx | hx
            · exact ha x hx
            · rw [List.mem_singleton.1 hx]; exact c2.1
        · rw [if_neg c2] at h; cases h
      · rw [if_neg c] at h
        obtain ⟨h1, h2, h3, h4⟩ := mvsR_own nd r _ l' o h
        exact ⟨by rw [h1]; simp [madeM, c], h2, h3, by rw [movM, e]; exact h4⟩
def nodR (next : Int) : Option Int → List Nd → Bool
  | _, [] => true
  | p, x :: r => decide (1 ≤ x.f0 ∧ x.f0 ≤ next - 1) && (match p with | none => true | some q => decide (q < x.f0)) && decide (0 ≤ x.f2 ∧ x.f2 ≤ (x.f1.size : Int)) && nodR next (some x.f0) r
theorem nodR_nodup (next : Int) : ∀ (l : List Nd) (p : Option Int), nodR next p l = true → (l.map fun x => x.f0).Nodup ∧ ∀ q, p = some q → ∀ y ∈ l, q < y.f0
  | [], p, _ => ⟨List.nodup_nil, fun _ _ y hy => by cases hy⟩
  | x :: r, p, h => by
    unfold nodR at h
    simp only [Bool.and_eq_true, decide_eq_true_eq] at h
    obtain ⟨⟨⟨h1, h2⟩, h3⟩, h4⟩ := h
    obtain ⟨g1, g2⟩ := nodR_nodup next r (some x.f0) h4
    refine ⟨?_, ?_⟩
    · rw [List.map_cons]
      refine List.nodup_cons.2 ⟨fun hm => ?_, g1⟩
      obtain ⟨y, hy, e⟩ := List.mem_map.1 hm
      have := g2 x.f0 rfl y hy
      omega
    · intro q hq y hy
      subst hq
      simp only [decide_eq_true_eq] at h2
      rcases List.mem_cons.1 hy with rfl | hy
      · exact h2
      · have := g2 x.f0 rfl y hy; omega
def usedM (l : List Nd) : Int := (l.map fun x => (x.f1.size : Int)).foldr (· + ·) 0
def okM (room next : Int) (nd : List Nd) (dir : List Lk) (mv : List Mv) : Bool :=
  decide (0 ≤ room ∧ room ≤ 1048576) && decide (1 ≤ next ∧ next ≤ 1000000) && nodR next none nd && decide ((nd.length : Int) ≤ 10) && decide (usedM nd ≤ room) && decide ((mv.length : Int) ≤ 20) && dirR nd none [] dir && (match mvsR nd (dir.map fun y => y.f1) dir mv with | none => false | some o => decide ((o.length : Int) = nd.length))
theorem hasM_mem (nd : List Nd) (i : Int) : hasM nd i = true ↔ i ∈ nd.map fun x => x.f0 := by
  simp [hasM]
/-- as the reference asks it -/
theorem okM_spec (room next : Int) (nd : List Nd) (dir : List Lk) (mv : List Mv) : okM room next nd dir mv = true ↔ (0 ≤ room ∧ room ≤ 1048576) ∧ (1 ≤ next ∧ next ≤ 1000000) ∧ (nd.length : Int) ≤ 10 ∧ (mv.length : Int) ≤ 20 ∧ (dir.length : Int) ≤ 10 ∧ usedM nd ≤ room ∧ nodR next none nd = true ∧ (∀ x ∈ nd, x.f0 ∈ dir.map (fun y => y.f1) ∨ x.f0 ∈ madeM mv) ∧ dirR nd none [] dir = true ∧ (mvsR nd (dir.map fun y => y.f1) dir mv).isSome = true := by
  unfold okM
  simp only [Bool.and_eq_true, decide_eq_true_eq]
  constructor
  · rintro ⟨⟨⟨⟨⟨⟨⟨h1, h2⟩, h3⟩, h4⟩, h5⟩, h6⟩, h7⟩, h8⟩
    cases e : mvsR nd (dir.map fun y => y.f1) dir mv with
    | none => rw [e] at h8; cases h8
    | some o =>
      rw [e] at h8
      simp only [decide_eq_true_eq] at h8
      obtain ⟨s1, s2, s3, s4⟩ := dirR_srt nd dir none [] h7
      obtain ⟨o1, o2, o3, o4⟩ := mvsR_own nd mv _ dir o e
      have hnd := (nodR_nodup next nd none h3).1
      have hdn : (dir.map fun y => y.f1).Nodup := by simpa using s4 List.nodup_nil
      have hon := o2 hdn
      have hsub : ∀ x ∈ o, x ∈ nd.map fun x => x.f0 := fun x hx => (hasM_mem nd x).1 (o3 (fun y hy => by
        obtain ⟨z, hz, rfl⟩ := List.mem_map.1 hy
        exact s3 z hz) x hx)
      have hall := (nodup_all hon hnd hsub).1 (by rw [List.length_map]; omega)
      have hlen := nodup_le _ _ hdn (fun x hx => hsub x (by rw [o1]; exact List.mem_append.2 (.inl hx)))
      rw [List.length_map, List.length_map] at hlen
      refine ⟨h1, h2, h4, h6, by omega, h5, h3, fun x hx => ?_, h7, rfl⟩
      have := hall x.f0 (List.mem_map.2 ⟨x, hx, rfl⟩)
      rw [o1] at this
      exact List.mem_append.1 this
  · rintro ⟨h1, h2, h4, h6, hd, h5, h3, ha, h7, h8⟩
    refine ⟨⟨⟨⟨⟨⟨⟨h1, h2⟩, h3⟩, h4⟩, h5⟩, h6⟩, h7⟩, ?_⟩
    cases e : mvsR nd (dir.map fun y => y.f1) dir mv with
    | none => rw [e] at h8; cases h8
    | some o =>
      simp only [decide_eq_true_eq]
      obtain ⟨s1, s2, s3, s4⟩ := dirR_srt nd dir none [] h7
      obtain ⟨o1, o2, o3, o4⟩ := mvsR_own nd mv _ dir o e
      have hnd := (nodR_nodup next nd none h3).1
      have hdn : (dir.map fun y => y.f1).Nodup := by simpa using s4 List.nodup_nil
      have hsub : ∀ x ∈ o, x ∈ nd.map fun x => x.f0 := fun x hx => (hasM_mem nd x).1 (o3 (fun y hy => by
        obtain ⟨z, hz, rfl⟩ := List.mem_map.1 hy
        exact s3 z hz) x hx)
      have := (nodup_all (o2 hdn) hnd hsub).2 (fun y hy => by
        obtain ⟨x, hx, rfl⟩ := List.mem_map.1 hy
        rw [o1]
        exact List.mem_append.2 (ha x hx))
      rw [List.length_map] at this
      omega

/-! the reference's loops over a disk -/
theorem tl_iff {s t : ByteArray} : s.toList = t.toList ↔ s = t := toList_eq_iff
theorem tl_nil {s : ByteArray} : s.toList = ([] : List UInt8) ↔ s.size = 0 := by
  rw [ByteArray.toList_eq]
  have : s.size = s.data.toList.length := by rw [Array.length_toList]; rfl
  rw [this]
  exact ⟨fun h => by rw [h]; rfl, fun h => List.length_eq_zero_iff.1 h⟩
theorem bl_cmp : ∀ (a b : List UInt8), Op.bytesLess a b = decide (Lib.compareBytes a b < 0)
  | [], [] => rfl
  | [], _ :: _ => rfl
  | _ :: _, [] => rfl
  | x :: a, y :: b => by
    rw [Op.bytesLess, Lib.compareBytes, bl_cmp a b]
    by_cases h1 : x < y
    · rw [if_pos h1, decide_eq_true h1]; rfl
    · rw [if_neg h1, decide_eq_false h1, Bool.false_or]
      by_cases h2 : y < x
      · rw [if_pos h2]
        have : (x == y) = false := beq_eq_false_iff_ne.mpr (fun e => by rw [e] at h2; exact UInt8.lt_irrefl _ h2)
        rw [this]; rfl
      · rw [if_neg h2]
        have : x = y := UInt8.le_antisymm (UInt8.not_lt.1 h2) (UInt8.not_lt.1 h1)
        rw [beq_iff_eq.mpr this, Bool.true_and]
theorem bl_s (a b : ByteArray) : (Op.bytesLess a.toList b.toList = true) ↔ cmpS a b < 0 := by
  rw [ByteArray.toList_eq, ByteArray.toList_eq, bl_cmp, decide_eq_true_eq]; rfl
def usedR : List Nd → Int
  | [] => 0
  | x :: r => (x.f1.size : Int) + usedR r
theorem usedM_eq : ∀ l : List Nd, usedM l = usedR l
  | [] => rfl
  | x :: r => by
    have := usedM_eq r
    unfold usedM at this ⊢
    rw [List.map_cons, List.foldr_cons, this]; rfl
theorem usedR_le : ∀ (l : List Nd), (∀ x ∈ l, x.f1.size ≤ 2097152) → 0 ≤ usedR l ∧ usedR l ≤ 2097152 * (l.length : Int)
  | [], _ => by simp [usedR]
  | x :: r, h => by
    have := usedR_le r (fun y hy => h y (List.mem_cons_of_mem _ hy))
    have := h x List.mem_cons_self
    rw [usedR, List.length_cons]; omega
theorem l4Bytes_run (ro nx : Int) (di : List Lk) (mv : List Mv) : ∀ (b a : List Nd) (k : Nat) (acc : Int), a.length + b.length ≤ 2097152 → (∀ x ∈ b, x.f1.size ≤ 2097152) → 0 ≤ acc → acc ≤ 2097152 * (a.length : Int) → b.length < k → spec_l4Bytes.l0 k acc (a.length : Int) ro nx (a ++ b) di mv = some (acc + usedR b)
  | [], a, k, acc, h0, h1, h2, h3, hk => by
    obtain ⟨q, rfl⟩ : ∃ m, k = m + 1 := ⟨k - 1, by omega⟩
    simp only [spec_l4Bytes.l0]; rw [if_neg (by simp), usedR, Int.add_zero]
  | x :: b, a, k, acc, h0, h1, h2, h3, hk => by
    simp only [List.length_cons] at h0 hk
    obtain ⟨q, rfl⟩ : ∃ m, k = m + 1 := ⟨k - 1, by omega⟩
    have hx := h1 x List.mem_cons_self
    have f := l4Bytes_run ro nx di mv b (a ++ [x]) q (acc + (x.f1.size : Int)) (by simp; omega) (fun y hy => h1 y (List.mem_cons_of_mem _ hy)) (by omega) (by simp; omega) (by omega)
    rw [List.append_assoc, List.singleton_append, show (((a ++ [x]).length : Nat) : Int) = (a.length : Int) + 1 by simp] at f
    simp only [spec_l4Bytes.l0]
    rw [if_pos (by simp; omega), if_pos (by omega), rdA130, w64 (n := acc + (x.f1.size : Int)) (by omega) (by omega), w64 (n := (a.length : Int) + 1) (by omega) (by omega), f, usedR, Int.add_assoc]
theorem l4Bytes_f (ro nx : Int) (nd : List Nd) (di : List Lk) (mv : List Mv) (h0 : nd.length ≤ 1048676) (h1 : ∀ x ∈ nd, x.f1.size ≤ 2097152) (k : Nat) (hk : nd.length < k) : spec_l4Bytes.f k ro nx nd di mv = some (usedR nd) := by
  have := l4Bytes_run ro nx di mv nd [] k 0 (by simp; omega) h1 (by omega) (by simp) hk
  unfold spec_l4Bytes.f
  simpa using this
theorem l4Linked_run (i : Int) : ∀ (b a : List Lk) (k : Nat), a.length + b.length ≤ 2097152 → b.length < k → spec_l4Linked.l0 k (a ++ b) i (a.length : Int) = some (decide (i ∈ b.map fun y => y.f1))
  | [], a, k, h0, hk => by
    obtain ⟨q, rfl⟩ : ∃ m, k = m + 1 := ⟨k - 1, by omega⟩
    simp only [spec_l4Linked.l0]; rw [if_neg (by simp)]; simp
  | x :: b, a, k, h0, hk => by
    simp only [List.length_cons] at h0 hk
    obtain ⟨q, rfl⟩ : ∃ m, k = m + 1 := ⟨k - 1, by omega⟩
    have f := l4Linked_run i b (a ++ [x]) q (by simp; omega) (by omega)
    rw [List.append_assoc, List.singleton_append, show (((a ++ [x]).length : Nat) : Int) = (a.length : Int) + 1 by simp] at f
    simp only [spec_l4Linked.l0]
    rw [if_pos (by simp; omega), if_pos (by omega), rdA133, w64 (n := (a.length : Int) + 1) (by omega) (by omega), f]
    by_cases c : x.f1 = i
    · rw [if_pos c, decide_eq_true]; simp [c]
    · rw [if_neg c]; congr 1; rw [Bool.eq_iff_iff, decide_eq_true_eq, decide_eq_true_eq, List.map_cons, List.mem_cons]
      exact ⟨fun h => .inr h, fun h => h.resolve_left (fun e => c e.symm)⟩
theorem l4Linked_f (l : List Lk) (i : Int) (h0 : l.length ≤ 1048676) (k : Nat) (hk : l.length < k) : spec_l4Linked.f k l i = some (decide (i ∈ l.map fun y => y.f1)) := by
  have := l4Linked_run i l [] k (by simp; omega) hk
  unfold spec_l4Linked.f
  simpa using this
theorem madeM_cons (x : Mv) (b : List Mv) : madeM (x :: b) = if x.f0 = 1 then x.f3 :: madeM b else madeM b := by
  unfold madeM
  by_cases c : x.f0 = 1
  · rw [if_pos c, List.filter_cons_of_pos (by simpa using c)]; rfl
  · rw [if_neg c, List.filter_cons_of_neg (by simpa using c)]
theorem l4Made_run (i : Int) : ∀ (b a : List Mv) (k : Nat), a.length + b.length ≤ 2097152 → b.length < k → spec_l4Made.l0 k (a ++ b) i (a.length : Int) = some (decide (i ∈ madeM b))
  | [], a, k, h0, hk => by
    obtain ⟨q, rfl⟩ : ∃ m, k = m + 1 := ⟨k - 1, by omega⟩
    simp only [spec_l4Made.l0]; rw [if_neg (by simp)]; simp [madeM]
  | x :: b, a, k, h0, hk => by
    simp only [List.length_cons] at h0 hk
    obtain ⟨q, rfl⟩ : ∃ m, k = m + 1 := ⟨k - 1, by omega⟩
    have f := l4Made_run i b (a ++ [x]) q (by simp; omega) (by omega)
    rw [List.append_assoc, List.singleton_append, show (((a ++ [x]).length : Nat) : Int) = (a.length : Int) + 1 by simp] at f
    simp only [spec_l4Made.l0]
    rw [if_pos (by simp; omega), if_pos (by omega), rdA135, w64 (n := (a.length : Int) + 1) (by omega) (by omega), f, madeM_cons]
    by_cases c : x.f0 = 1
    · rw [if_pos c, if_pos c]
      by_cases c2 : x.f3 = i
      · rw [if_pos c2, decide_eq_true]; rw [c2]; exact List.mem_cons_self
      · rw [if_neg c2]; congr 1; rw [Bool.eq_iff_iff, decide_eq_true_eq, decide_eq_true_eq, List.mem_cons]
        exact ⟨fun h => .inr h, fun h => h.resolve_left (fun e => c2 e.symm)⟩
    · rw [if_neg c, if_neg c]
theorem l4Made_f (l : List Mv) (i : Int) (h0 : l.length ≤ 1048676) (k : Nat) (hk : l.length < k) : spec_l4Made.f k l i = some (decide (i ∈ madeM l)) := by
  have := l4Made_run i l [] k (by simp; omega) hk
  unfold spec_l4Made.f
  simpa using this
theorem l4Name_run (s : ByteArray) (hs : s.size ≤ 1048676) : ∀ (d k : Nat) (i : Int), 0 ≤ i → i + d = s.size → d < k → spec_l4Name.l0 k s i = some (((bytesOf s).drop i.toNat).all nameB) := by
  intro d
  induction d with
  | zero =>
    intro k i h0 h1 hk
    obtain ⟨q, rfl⟩ : ∃ m, k = m + 1 := ⟨k - 1, by omega⟩
    simp only [spec_l4Name.l0]
    rw [if_neg (by omega), List.drop_of_length_le (by rw [bytesOf_length]; omega)]; rfl
  | succ d ih =>
    intro k i h0 h1 hk
    obtain ⟨q, rfl⟩ : ∃ m, k = m + 1 := ⟨k - 1, by omega⟩
    have f := ih q (i + 1) (by omega) (by omega) (by omega)
    simp only [spec_l4Name.l0]
    rw [if_pos (by omega), if_pos h0, w64 (n := i + 1) (by omega) (by omega), f, bt_drop h0 (by omega), List.all_cons, show (i + 1).toNat = i.toNat + 1 by omega]
    generalize bt s i = v
    generalize ((bytesOf s).drop (i.toNat + 1)).all nameB = R
    have e : nameB v = decide ((97 ≤ v ∧ v ≤ 122) ∨ (48 ≤ v ∧ v ≤ 57) ∨ v = 46) := rfl
    by_cases hv : (97 ≤ v ∧ v ≤ 122) ∨ (48 ≤ v ∧ v ≤ 57) ∨ v = 46
    · rw [e, decide_eq_true hv, Bool.true_and]
      repeat' split
      all_goals (first | rfl | (exfalso; omega))
    · rw [e, decide_eq_false hv, Bool.false_and]
      repeat' split
      all_goals (first | rfl | (exfalso; omega))
theorem l4Name_f (s : ByteArray) (hs : s.size ≤ 1048676) (k : Nat) (hk : s.size < k) : spec_l4Name.f k s = some (nameM s) := by
  unfold spec_l4Name.f nameM
  rw [spec_l1In_run]
  simp only [Option.bind_some, decide_eq_true_eq]
  by_cases h : 1 ≤ (s.size : Int) ∧ (s.size : Int) ≤ 12
  · rw [if_pos h, l4Name_run s hs s.size k 0 (by omega) (by omega) hk, decide_eq_true h]; rfl
  · rw [if_neg h, decide_eq_false h]; rfl
theorem ixf_range (i : Int) : ∀ (l : List Nd) (o : Int), 0 ≤ o → (ixf i l o = -1 ∧ hasM l i = false) ∨ (o ≤ ixf i l o ∧ ixf i l o < o + l.length ∧ hasM l i = true)
  | [], o, h => .inl ⟨rfl, rfl⟩
  | x :: r, o, h => by
    rw [ixf]
    have e : hasM (x :: r) i = (decide (x.f0 = i) || hasM r i) := rfl
    by_cases c : x.f0 = i
    · rw [if_pos (by simpa using c), e, decide_eq_true c, List.length_cons]; exact .inr ⟨by omega, by omega, rfl⟩
    · rw [if_neg (by simpa using c), e, decide_eq_false c, Bool.false_or, List.length_cons]
      rcases ixf_range i r (o + 1) (by omega) with ⟨h1, h2⟩ | ⟨h1, h2, h3⟩
      · exact .inl ⟨h1, h2⟩
      · exact .inr ⟨by omega, by omega, h3⟩
theorem l4Inode_run (ro nx i : Int) (di : List Lk) (mv : List Mv) : ∀ (b a : List Nd) (k : Nat), a.length + b.length ≤ 2097152 → b.length < k → spec_l4Inode.l0 k i (a.length : Int) ro nx (a ++ b) di mv = some (ixf i b a.length)
  | [], a, k, h0, hk => by
    obtain ⟨q, rfl⟩ : ∃ m, k = m + 1 := ⟨k - 1, by omega⟩
    simp only [spec_l4Inode.l0]; rw [if_neg (by simp)]; rfl
  | x :: b, a, k, h0, hk => by
    simp only [List.length_cons] at h0 hk
    obtain ⟨q, rfl⟩ : ∃ m, k = m + 1 := ⟨k - 1, by omega⟩
    have f := l4Inode_run ro nx i di mv b (a ++ [x]) q (by simp; omega) (by omega)
    rw [List.append_assoc, List.singleton_append, show (((a ++ [x]).length : Nat) : Int) = (a.length : Int) + 1 by simp] at f
    simp only [spec_l4Inode.l0]
    rw [if_pos (by simp; omega), if_pos (by omega), rdA130, w64 (n := (a.length : Int) + 1) (by omega) (by omega), f, ixf]
    by_cases c : x.f0 = i
    · rw [if_pos c, if_pos (by simpa using c)]
    · rw [if_neg c, if_neg (by simpa using c)]
theorem l4Inode_f (ro nx i : Int) (nd : List Nd) (di : List Lk) (mv : List Mv) (h0 : nd.length ≤ 1048676) (k : Nat) (hk : nd.length < k) : spec_l4Inode.f k ro nx nd di mv i = some (ixf i nd 0) := by
  have := l4Inode_run ro nx i di mv nd [] k (by simp; omega) hk
  unfold spec_l4Inode.f
  simpa using this
def atM (s : ByteArray) : List Lk → Int → Int
  | [], _ => -1
  | x :: r, o => if x.f0 = s then o else atM s r (o + 1)
theorem l4At_run (s : ByteArray) : ∀ (b a : List Lk) (k : Nat), a.length + b.length ≤ 2097152 → b.length < k → spec_l4At.l0 k (a ++ b) s (a.length : Int) = some (atM s b a.length)
  | [], a, k, h0, hk => by
    obtain ⟨q, rfl⟩ : ∃ m, k = m + 1 := ⟨k - 1, by omega⟩
    simp only [spec_l4At.l0]; rw [if_neg (by simp)]; rfl
  | x :: b, a, k, h0, hk => by
    simp only [List.length_cons] at h0 hk
    obtain ⟨q, rfl⟩ : ∃ m, k = m + 1 := ⟨k - 1, by omega⟩
    have f := l4At_run s b (a ++ [x]) q (by simp; omega) (by omega)
    rw [List.append_assoc, List.singleton_append, show (((a ++ [x]).length : Nat) : Int) = (a.length : Int) + 1 by simp] at f
    simp only [spec_l4At.l0, tl_iff]
    rw [if_pos (by simp; omega), if_pos (by omega), rdA133, w64 (n := (a.length : Int) + 1) (by omega) (by omega), f, atM]
    split <;> rfl
theorem l4At_f (l : List Lk) (s : ByteArray) (h0 : l.length ≤ 1048676) (k : Nat) (hk : l.length < k) : spec_l4At.f k l s = some (atM s l 0) := by
  have := l4At_run s l [] k (by simp; omega) hk
  unfold spec_l4At.f
  simpa using this
theorem atM_id (s : ByteArray) : ∀ (l : List Lk) (o : Int), 0 ≤ o → (match idM l s with
    | some i => ∃ n : Nat, atM s l o = o + n ∧ n < l.length ∧ (rd_T133 l (n : Int)).f1 = i
    | none => atM s l o = -1)
  | [], o, h => rfl
  | x :: r, o, h => by
    rw [idM, atM]
    by_cases c : x.f0 = s
    · rw [if_pos c, if_pos c]; exact ⟨0, by omega, by simp, rfl⟩
    · rw [if_neg c, if_neg c]
      have ih := atM_id s r (o + 1) (by omega)
      cases hd : idM r s with
      | none => rw [hd] at ih; exact ih
      | some i =>
        rw [hd] at ih
        obtain ⟨n, h1, h2, h3⟩ := ih
        refine ⟨n + 1, by rw [h1]; omega, by rw [List.length_cons]; omega, ?_⟩
        rw [rdL_cons x r _ (by omega), show (((n + 1 : Nat)) : Int) - 1 = (n : Int) by omega]; exact h3
theorem delM_cons (s : ByteArray) (x : Lk) (r : List Lk) : delM s (x :: r) = if x.f0 = s then delM s r else x :: delM s r := by
  unfold delM
  by_cases c : x.f0 = s
  · rw [if_pos c, List.filter_cons_of_neg (by simp [c])]
  · rw [if_neg c, List.filter_cons_of_pos (by
      rw [Bool.not_eq_true', beq_eq_false_iff_ne]; exact fun e => c (tl_iff.1 e))]
theorem l4Without_run (s : ByteArray) : ∀ (b a o : List Lk) (k : Nat), a.length + b.length ≤ 2097152 → o.length ≤ a.length → b.length < k → spec_l4Without.l0 k (a ++ b) s o (a.length : Int) = some (o ++ delM s b)
  | [], a, o, k, h0, ho, hk => by
    obtain ⟨q, rfl⟩ : ∃ m, k = m + 1 := ⟨k - 1, by omega⟩
    simp only [spec_l4Without.l0]; rw [if_neg (by simp)]; simp [delM]
  | x :: b, a, o, k, h0, ho, hk => by
    simp only [List.length_cons] at h0 hk
    obtain ⟨q, rfl⟩ : ∃ m, k = m + 1 := ⟨k - 1, by omega⟩
    simp only [spec_l4Without.l0, tl_iff]
    rw [if_pos (by simp; omega), if_pos (by omega), rdA133, w64 (n := (a.length : Int) + 1) (by omega) (by omega), delM_cons]
    by_cases c : x.f0 = s
    · have f := l4Without_run s b (a ++ [x]) o q (by simp; omega) (by simp; omega) (by omega)
      rw [List.append_assoc, List.singleton_append, show (((a ++ [x]).length : Nat) : Int) = (a.length : Int) + 1 by simp] at f
      rw [if_pos c, if_pos c, f]
    · have f := l4Without_run s b (a ++ [x]) (o ++ [x]) q (by simp; omega) (by simp; omega) (by omega)
      rw [List.append_assoc, List.singleton_append, show (((a ++ [x]).length : Nat) : Int) = (a.length : Int) + 1 by simp] at f
      rw [if_neg c, if_neg c, if_pos (by omega), show (⟨x.f0, x.f1⟩ : Lk) = x from rfl, f]; simp
theorem l4Without_f (l : List Lk) (s : ByteArray) (h0 : l.length ≤ 1048676) (k : Nat) (hk : l.length < k) : spec_l4Without.f k l s = some (delM s l) := by
  have := l4Without_run s l [] [] k (by simp; omega) (by simp) hk
  unfold spec_l4Without.f
  simpa using this
theorem l4With_put (x : Lk) : ∀ (b a o : List Lk) (k : Nat), a.length + b.length ≤ 2097152 → o.length ≤ a.length + 1 → b.length < k → spec_l4With.l0 k (a ++ b) o true (a.length : Int) x.f0 x.f1 = some (o ++ b)
  | [], a, o, k, h0, ho, hk => by
    obtain ⟨q, rfl⟩ : ∃ m, k = m + 1 := ⟨k - 1, by omega⟩
    simp only [spec_l4With.l0]; rw [if_neg (by simp), if_pos trivial]; simp
  | y :: b, a, o, k, h0, ho, hk => by
    simp only [List.length_cons] at h0 hk
    obtain ⟨q, rfl⟩ : ∃ m, k = m + 1 := ⟨k - 1, by omega⟩
    have f := l4With_put x b (a ++ [y]) (o ++ [y]) q (by simp; omega) (by simp; omega) (by omega)
    rw [List.append_assoc, List.singleton_append, show (((a ++ [y]).length : Nat) : Int) = (a.length : Int) + 1 by simp] at f
    simp only [spec_l4With.l0]
    rw [if_pos (by simp; omega), if_pos trivial, if_pos (by omega), if_pos (by omega), rdA133, w64 (n := (a.length : Int) + 1) (by omega) (by omega), show (⟨y.f0, y.f1⟩ : Lk) = y from rfl, f]; simp
theorem l4With_run (x : Lk) : ∀ (b a o : List Lk) (k : Nat), a.length + b.length ≤ 2097152 → o.length ≤ a.length → (∀ y ∈ b, y.f0 ≠ x.f0) → b.length < k → spec_l4With.l0 k (a ++ b) o false (a.length : Int) x.f0 x.f1 = some (o ++ insR b x)
  | [], a, o, k, h0, ho, hn, hk => by
    obtain ⟨q, rfl⟩ : ∃ m, k = m + 1 := ⟨k - 1, by omega⟩
    simp only [spec_l4With.l0]; rw [if_neg (by simp), if_neg (by decide), if_pos (by simp only [List.length_nil] at h0; omega)]; rfl
  | y :: b, a, o, k, h0, ho, hn, hk => by
    simp only [List.length_cons] at h0 hk
    obtain ⟨q, rfl⟩ : ∃ m, k = m + 1 := ⟨k - 1, by omega⟩
    have hy := hn y List.mem_cons_self
    have h3 : cmpS y.f0 x.f0 ≠ 0 := fun h => hy (cs_eq h)
    have h4 := cs_swap y.f0 x.f0
    simp only [spec_l4With.l0, bl_s]
    rw [if_pos (by simp; omega), if_neg (by decide), if_pos (by omega), rdA133, w64 (n := (a.length : Int) + 1) (by omega) (by omega), insR]
    by_cases c : cmpS y.f0 x.f0 < 0
    · have f := l4With_run x b (a ++ [y]) (o ++ [y]) q (by simp; omega) (by simp; omega) (fun z hz => hn z (List.mem_cons_of_mem _ hz)) (by omega)
      rw [List.append_assoc, List.singleton_append, show (((a ++ [y]).length : Nat) : Int) = (a.length : Int) + 1 by simp] at f
      rw [if_neg (by omega), if_pos (by omega), if_pos c, show (⟨y.f0, y.f1⟩ : Lk) = y from rfl, f]; simp
    · have f := l4With_put x b (a ++ [y]) (o ++ [x] ++ [y]) q (by simp; omega) (by simp; omega) (by omega)
      rw [List.append_assoc, List.singleton_append, show (((a ++ [y]).length : Nat) : Int) = (a.length : Int) + 1 by simp] at f
      rw [if_pos (by omega), if_pos (by omega), if_neg c]
      simp only [Option.bind_some]
      rw [if_pos (by simp; omega), show (⟨y.f0, y.f1⟩ : Lk) = y from rfl, show (⟨x.f0, x.f1⟩ : Lk) = x from rfl, f]; simp
theorem l4With_f (l : List Lk) (x0 : ByteArray) (x1 : Int) (h0 : l.length ≤ 1048676) (k : Nat) (hk : l.length < k) : spec_l4With.f k l x0 x1 = some (insR (delM x0 l) ⟨x0, x1⟩) := by
  have hd := delM_length x0 l
  unfold spec_l4With.f
  rw [l4Without_f l x0 h0 k hk]
  simp only [Option.bind_some]
  have := l4With_run ⟨x0, x1⟩ (delM x0 l) [] [] k (by simp; omega) (by simp) (fun y hy => delM_ne x0 l y hy) (by omega)
  simpa using this
theorem nameM_size {s : ByteArray} (h : nameM s = true) : s.size ≤ 12 := by
  unfold nameM at h
  rw [Bool.and_eq_true, decide_eq_true_eq] at h
  omega
theorem l4Apply_f (l : List Lk) (m : Mv) (h0 : l.length ≤ 1048650) (hm1 : m.f1.size ≤ 1048676) (hm2 : m.f2.size ≤ 1048676) (k : Nat) (hk : 1048690 < k) : spec_l4Apply.f k l m.f0 m.f1 m.f2 m.f3 = some (match appM l m with | some l' => (l', true) | none => (l, false)) := by
  obtain ⟨q, rfl⟩ : ∃ m, k = m + 1 := ⟨k - 1, by omega⟩
  obtain ⟨p, rfl⟩ : ∃ m, q = m + 1 := ⟨q - 1, by omega⟩
  have A := atM_id m.f1 l 0 (by omega)
  unfold spec_l4Apply.f
  rw [l4At_f l m.f1 (by omega) _ (by omega), l4Name_f m.f1 hm1 _ (by omega)]
  simp only [Option.bind_some, tl_nil]
  unfold appM
  by_cases hn : nameM m.f1 = true
  · rw [if_pos hn, if_pos hn]
    have key1 : ∀ b, spec_l4Apply.j1 (p + 1) l (atM m.f1 l 0) b m.f0 m.f1 m.f2 m.f3 = if b = true then ((spec_l4Without.f p l m.f1).bind fun t184 => (if 0 ≤ (atM m.f1 l 0) then (if (atM m.f1 l 0) < (l.length : Int) then ((spec_l4With.f p t184 m.f2 ((rd_T133 l (atM m.f1 l 0)).f1)).bind fun t188 => (some (t188, true))) else (none)) else (none))) else (if m.f0 = 3 then (if m.f3 = 0 then (if m.f2.size = 0 then (if atM m.f1 l 0 ≥ 0 then some (delM m.f1 l, true) else (some (l, false))) else (some (l, false))) else (some (l, false))) else (some (l, false))) := by
      intro b
      simp only [spec_l4Apply.j1, tl_nil]
      rw [l4Without_f l m.f1 (by omega) p (by omega)]
      simp only [Option.bind_some]
    by_cases h1 : m.f0 = 1
    · rw [if_pos h1, if_pos h1]
      have j1 : ∀ b, spec_l4Apply.j0 (p + 1 + 1) l (atM m.f1 l 0) b m.f0 m.f1 m.f2 m.f3 = if b = true then some (insR (delM m.f1 l) ⟨m.f1, m.f3⟩, true) else some (l, false) := by
        intro b
        simp only [spec_l4Apply.j0]
        rw [l4With_f l m.f1 m.f3 (by omega) _ (by omega), if_neg (show ¬ m.f0 = 2 by omega), key1, if_neg (show ¬ (false = true) by decide), if_neg (show ¬ m.f0 = 3 by omega)]
        rfl
      rw [j1, j1]
      by_cases h2 : m.f2.size = 0
      · rw [if_pos h2]
        cases hd : idM l m.f1 with
        | none => rw [hd] at A; rw [A, if_pos (by decide), if_pos ⟨rfl, h2⟩]
        | some i =>
          rw [hd] at A
          obtain ⟨n, a1, a2, a3⟩ := A
          rw [if_neg (by rw [a1, decide_eq_true_eq]; omega), if_neg (fun h => by cases h.1)]
      · rw [if_neg h2, if_neg (show ¬ (false = true) by decide), if_neg (fun h => h2 h.2)]
    · rw [if_neg h1, if_neg h1]
      simp only [spec_l4Apply.j0]
      rw [if_neg (show ¬ (false = true) by decide)]
      by_cases h2 : m.f0 = 2
      · rw [if_pos h2, if_pos h2, l4Name_f m.f2 hm2 _ (by omega)]
        simp only [Option.bind_some, key1]
        rw [if_neg (show ¬ m.f0 = 3 by omega)]
        cases hd : idM l m.f1 with
        | none =>
          rw [hd] at A
          rw [A, if_neg (show ¬ ((-1 : Int) ≥ 0) by decide), if_neg (show ¬ (false = true) by decide)]
          split <;> rfl
        | some i =>
          rw [hd] at A
          obtain ⟨n, a1, a2, a3⟩ := A
          rw [if_pos (show atM m.f1 l 0 ≥ 0 by omega), if_neg (show ¬ (false = true) by decide), l4Without_f l m.f1 (by omega) p (by omega)]
          have hdl := delM_length m.f1 l
          simp only [Option.bind_some]
          rw [if_pos (show 0 ≤ atM m.f1 l 0 by omega), if_pos (show atM m.f1 l 0 < (l.length : Int) by omega), l4With_f (delM m.f1 l) m.f2 _ (by omega) p (by omega), show (rd_T133 l (atM m.f1 l 0)).f1 = i by rw [a1, show (0 : Int) + (n : Int) = n by omega]; exact a3]
          simp only [Option.bind_some]
          by_cases c1 : m.f3 = 0
          · rw [if_pos c1]
            by_cases c2 : nameM m.f2 = true
            · rw [if_pos c2]
              by_cases c3 : m.f2 = m.f1
              · rw [if_neg (show ¬ ((m.f2.toList != m.f1.toList) = true) by rw [bne_iff_ne]; exact fun h => h (tl_iff.2 c3)), if_neg (show ¬ (m.f3 = 0 ∧ nameM m.f2 = true ∧ m.f2 ≠ m.f1) from fun h => h.2.2 c3)]
              · rw [if_pos (show (m.f2.toList != m.f1.toList) = true by rw [bne_iff_ne]; exact fun h => c3 (tl_iff.1 h)), if_pos (show (m.f3 = 0 ∧ nameM m.f2 = true ∧ m.f2 ≠ m.f1) from ⟨c1, c2, c3⟩)]
            · rw [if_neg c2, if_neg (show ¬ (m.f3 = 0 ∧ nameM m.f2 = true ∧ m.f2 ≠ m.f1) from fun h => c2 h.2.1)]
          · rw [if_neg c1, if_neg (show ¬ (m.f3 = 0 ∧ nameM m.f2 = true ∧ m.f2 ≠ m.f1) from fun h => c1 h.1)]
      · rw [if_neg h2, if_neg h2, key1, if_neg (show ¬ (false = true) by decide)]
        by_cases h3 : m.f0 = 3
        · rw [if_pos h3, if_pos h3]
          cases hd : idM l m.f1 with
          | none =>
            rw [hd] at A
            rw [A, if_neg (show ¬ ((-1 : Int) ≥ 0) by decide), if_neg (show ¬ ((none : Option Int) ≠ none ∧ m.f2.size = 0 ∧ m.f3 = 0) from fun h => h.1 rfl)]
            split
            · split <;> rfl
            · rfl
          | some i =>
            rw [hd] at A
            obtain ⟨n, a1, a2, a3⟩ := A
            rw [if_pos (show atM m.f1 l 0 ≥ 0 by omega)]
            by_cases c1 : m.f3 = 0
            · rw [if_pos c1]
              by_cases c2 : m.f2.size = 0
              · rw [if_pos c2, if_pos (show (some i ≠ none ∧ m.f2.size = 0 ∧ m.f3 = 0) from ⟨(fun h => by cases h), c2, c1⟩)]
              · rw [if_neg c2, if_neg (show ¬ (some i ≠ none ∧ m.f2.size = 0 ∧ m.f3 = 0) from fun h => c2 h.2.1)]
            · rw [if_neg c1, if_neg (show ¬ (some i ≠ none ∧ m.f2.size = 0 ∧ m.f3 = 0) from fun h => c1 h.2.2)]
        · rw [if_neg h3, if_neg h3]
  · rw [if_neg hn, if_neg hn]

/-! the reference's DiskOk -/
theorem rd_get {l : List Nd} {n : Nat} (h : n < l.length) : rd_T130 l (n : Int) = l[n] := by
  unfold rd_T130; rw [show ((n : Int)).toNat = n by omega, List.getD_eq_getElem?_getD, List.getElem?_eq_getElem h]; rfl
def prevN : List Nd → Option Int
  | [] => none
  | x :: r => match prevN r with | none => some x.f0 | some v => some v
theorem prevN_snoc : ∀ (a : List Nd) (x : Nd), prevN (a ++ [x]) = some x.f0
  | [], x => rfl
  | y :: r, x => by rw [List.cons_append, prevN, prevN_snoc r x]
theorem snoc_of {α : Type} (l : List α) (h : l ≠ []) : ∃ a x, l = a ++ [x] := ⟨l.dropLast, l.getLast h, (List.dropLast_concat_getLast h).symm⟩
def nodOwn (di : List Lk) (mv : List Mv) (l : List Nd) : Bool := l.all fun x => decide (x.f0 ∈ di.map (fun y => y.f1)) || decide (x.f0 ∈ madeM mv)
def prevL : List Lk → Option ByteArray
  | [] => none
  | x :: r => match prevL r with | none => some x.f0 | some v => some v
theorem prevL_snoc : ∀ (a : List Lk) (x : Lk), prevL (a ++ [x]) = some x.f0
  | [], x => rfl
  | y :: r, x => by rw [List.cons_append, prevL, prevL_snoc r x]
theorem sDisk_l2 (ro nx : Int) (nd : List Nd) (di : List Lk) (h0 : nd.length ≤ 1048600) (h1 : di.length ≤ 1048590) (mvs : List Mv) (h2 : mvs.length ≤ 20) (hs : ∀ m ∈ mvs, m.f1.size ≤ 1048676 ∧ m.f2.size ≤ 1048676) : ∀ (b a : List Mv) (l : List Lk) (k : Nat), a ++ b = mvs → Srt l → l.length ≤ di.length + a.length → 2 * b.length + 1048700 < k →
    spec_DiskOk.l2 k l (a.length : Int) ro nx nd di mvs = some (mvsR nd (di.map (fun y => y.f1) ++ madeM a) l b).isSome
  | [], a, l, k, e, hl, hll, hk => by
    obtain ⟨q, rfl⟩ : ∃ m, k = m + 1 := ⟨k - 1, by omega⟩
    subst e
    simp only [spec_DiskOk.l2]
    rw [if_neg (by simp)]; rfl
  | m :: b, a, l, k, e, hl, hll, hk => by
    simp only [List.length_cons] at hk
    have hlen := congrArg List.length e
    rw [List.length_append, List.length_cons] at hlen
    obtain ⟨q, rfl⟩ : ∃ m, k = m + 1 := ⟨k - 1, by omega⟩
    obtain ⟨p, rfl⟩ : ∃ m, q = m + 1 := ⟨q - 1, by omega⟩
    have hrd : rd_T135 mvs (a.length : Int) = m := by rw [← e]; exact rdA135 a m b
    have hm := hs m (by rw [← e]; simp)
    have htk : mvs.take ((a.length : Int)).toNat = a := by rw [← e, show ((a.length : Int)).toNat = a.length by omega, List.take_left' rfl]
    have hmade : madeM (a ++ [m]) = if m.f0 = 1 then madeM a ++ [m.f3] else madeM a := by
      unfold madeM
      rw [List.filter_append, List.map_append]
      by_cases c : m.f0 = 1
      · rw [if_pos c]; simp [c]
      · rw [if_neg c]; simp [c]
    have key : ∀ t, spec_DiskOk.j4 (p + 1) l (a.length : Int) t ro nx nd di mvs m.f0 m.f1 m.f2 m.f3 = if t = true then some false else (match appM l m with | some l' => spec_DiskOk.l2 p l' ((a.length : Int) + 1) ro nx nd di mvs | none => some false) := by
      intro t
      simp only [spec_DiskOk.j4]
      rw [l4Apply_f l m (by omega) hm.1 hm.2 p (by omega)]
      simp only [Option.bind_some]
      cases appM l m with
      | none => simp
      | some l' =>
        simp only []
        rw [if_pos trivial, w64 (n := (a.length : Int) + 1) (by omega) (by omega)]
    have ih : ∀ l', appM l m = some l' → spec_DiskOk.l2 p l' ((a.length : Int) + 1) ro nx nd di mvs = some (mvsR nd (di.map (fun y => y.f1) ++ madeM (a ++ [m])) l' b).isSome := by
      intro l' hl'
      have f := sDisk_l2 ro nx nd di h0 h1 mvs h2 hs b (a ++ [m]) l' p (by rw [List.append_assoc]; exact e) (appM_srt hl hl') (by have := appM_length hl'; simp; omega) (by omega)
      rw [show (((a ++ [m]).length : Nat) : Int) = (a.length : Int) + 1 by simp] at f
      exact f
    simp only [spec_DiskOk.l2]
    rw [if_pos (by omega), if_pos (by omega), hrd]
    simp only [key, htk]
    rw [l4Inode_f ro nx m.f3 nd di mvs (by omega) (p + 1) (by omega)]
    simp only [Option.bind_some]
    rw [l4Linked_f di m.f3 (by omega) (p + 1) (by omega), l4Made_f a m.f3 (by omega) (p + 1) (by omega)]
    simp only [Option.bind_some]
    rw [if_pos (show (a.length : Int) ≤ (mvs.length : Int) by omega), if_pos trivial, if_neg (show ¬ (false = true) by decide), mvsR]
    by_cases c : m.f0 = 1
    · rw [if_pos c]
      cases hap : appM l m with
      | none => simp only [Option.isSome_none]; (repeat' split); all_goals rfl
      | some l' =>
        have f := ih l' hap
        rw [hmade, if_pos c, ← List.append_assoc] at f
        simp only [f]
        rw [if_pos c]
        rcases ixf_range m.f3 nd 0 (by omega) with ⟨r1, r2⟩ | ⟨r1, r2, r3⟩
        · rw [if_pos (by omega), if_neg (fun h => by rw [r2] at h; cases h.1)]; rfl
        · rw [if_neg (by omega)]
          by_cases c2 : m.f3 ∈ di.map (fun y => y.f1)
          · rw [if_pos (decide_eq_true c2), if_neg (fun h => h.2 (List.mem_append.2 (.inl c2)))]; rfl
          · rw [if_neg (by rw [decide_eq_true_eq]; exact c2)]
            by_cases c3 : m.f3 ∈ madeM a
            · rw [if_pos (decide_eq_true c3), if_neg (fun h => h.2 (List.mem_append.2 (.inr c3)))]; rfl
            · rw [if_neg (by rw [decide_eq_true_eq]; exact c3), if_pos ⟨r3, fun h => (List.mem_append.1 h).elim c2 c3⟩]
    · rw [if_neg c]
      cases hap : appM l m with
      | none => rfl
      | some l' =>
        have f := ih l' hap
        rw [hmade, if_neg c] at f
        simp only [f]
        rw [if_neg c]
theorem sDisk_l1 (ro nx : Int) (nd : List Nd) (di : List Lk) (h0 : nd.length ≤ 1048600) (h1 : di.length ≤ 1048590) (hd : ∀ x ∈ di, x.f0.size ≤ 1048676) (mvs : List Mv) (h2 : mvs.length ≤ 20) (hs : ∀ m ∈ mvs, m.f1.size ≤ 1048676 ∧ m.f2.size ≤ 1048676) : ∀ (b a : List Lk) (k : Nat), a ++ b = di → (∀ R, dirR nd (prevL a) (a.map fun y => y.f1) b = true → R = (a ++ b) → Srt R) → b.length + 1048800 < k →
    spec_DiskOk.l1 k (a.length : Int) ro nx nd di mvs = some (dirR nd (prevL a) (a.map fun y => y.f1) b && (mvsR nd (di.map fun y => y.f1) di mvs).isSome)
  | [], a, k, e, hR, hk => by
    obtain ⟨q, rfl⟩ : ∃ m, k = m + 1 := ⟨k - 1, by omega⟩
    have ha : a = di := by simpa using e
    subst ha
    have hsrt := hR a (by simp [dirR]) (by simp)
    simp only [spec_DiskOk.l1]
    rw [if_neg (by simp)]
    simp only [Option.bind_some, List.nil_append, List.length_nil]
    rw [if_pos (by omega)]
    have f := sDisk_l2 ro nx nd a h0 h1 mvs h2 hs mvs [] a q (by simp) hsrt (by simp) (by omega)
    simp only [List.length_nil] at f
    rw [show ((0 : Nat) : Int) = 0 from rfl] at f
    rw [f]; simp [dirR, madeM]
  | x :: b, a, k, e, hR, hk => by
    simp only [List.length_cons] at hk
    have hlen := congrArg List.length e
    rw [List.length_append, List.length_cons] at hlen
    obtain ⟨q, rfl⟩ : ∃ m, k = m + 1 := ⟨k - 1, by omega⟩
    have hrd : rd_T133 di (a.length : Int) = x := by rw [← e]; exact rdA133 a x b
    have hx := hd x (by rw [← e]; simp)
    have htk : di.take ((a.length : Int)).toNat = a := by rw [← e, show ((a.length : Int)).toNat = a.length by omega, List.take_left' rfl]
    have ih := fun hh => sDisk_l1 ro nx nd di h0 h1 hd mvs h2 hs b (a ++ [x]) q (by rw [List.append_assoc]; exact e) hh (by omega)
    rw [show (((a ++ [x]).length : Nat) : Int) = (a.length : Int) + 1 by simp, prevL_snoc, List.map_append, List.map_singleton] at ih
    have hdir : dirR nd (prevL a) (a.map fun y => y.f1) (x :: b) = (nameM x.f0 && (match prevL a with | none => true | some q => decide (cmpS q x.f0 < 0)) && hasM nd x.f1 && !(decide (x.f1 ∈ a.map fun y => y.f1)) && dirR nd (some x.f0) ((a.map fun y => y.f1) ++ [x.f1]) b) := by
      cases prevL a <;> rfl
    simp only [spec_DiskOk.l1]
    rw [if_pos (by omega), if_pos (by omega), hrd, htk]
    rw [l4Name_f x.f0 (by omega) q (by omega), l4Inode_f ro nx x.f1 nd di mvs (by omega) q (by omega), l4Linked_f a x.f1 (by omega) q (by omega)]
    simp only [Option.bind_some]
    rw [w64 (n := (a.length : Int) + 1) (by omega) (by omega), w64 (n := (a.length : Int) - 1) (by omega) (by omega), if_pos (show (a.length : Int) ≤ (di.length : Int) by omega)]
    rw [hdir] at hR ⊢
    by_cases hn : nameM x.f0 = true
    · rw [if_pos hn, hn, Bool.true_and]
      rw [hn, Bool.true_and] at hR
      have tail : ∀ (P : Bool), P = true → (match prevL a with | none => true | some q => decide (cmpS q x.f0 < 0)) = P → (if ixf x.f1 nd 0 < 0 then some false else if decide (x.f1 ∈ a.map fun y => y.f1) = true then some false else spec_DiskOk.l1 q ((a.length : Int) + 1) ro nx nd di mvs) = some ((match prevL a with | none => true | some q => decide (cmpS q x.f0 < 0)) && hasM nd x.f1 && !(decide (x.f1 ∈ a.map fun y => y.f1)) && dirR nd (some x.f0) ((a.map fun y => y.f1) ++ [x.f1]) b && (mvsR nd (di.map fun y => y.f1) di mvs).isSome) := by
        intro P hP hQ
        rw [hQ, hP] at hR ⊢
        rw [Bool.true_and] at hR ⊢
        rcases ixf_range x.f1 nd 0 (by omega) with ⟨r1, r2⟩ | ⟨r1, r2, r3⟩
        · rw [if_pos (by omega), r2]; rfl
        · rw [if_neg (by omega), r3, Bool.true_and]
          rw [r3, Bool.true_and] at hR
          by_cases c2 : x.f1 ∈ a.map fun y => y.f1
          · rw [if_pos (decide_eq_true c2), decide_eq_true c2]; rfl
          · rw [if_neg (by rw [decide_eq_true_eq]; exact c2), decide_eq_false c2, ih (fun R h1 h2 => hR R (by rw [decide_eq_false c2]; simpa using h1) (by rw [h2]; simp))]
            rfl
      by_cases ha : a = []
      · subst ha
        rw [if_neg (by simp)]
        exact tail true rfl rfl
      · obtain ⟨a', y, rfl⟩ := snoc_of a ha
        have hrd2 : rd_T133 di (((a' ++ [y]).length : Int) - 1) = y := by
          rw [← e, List.append_assoc, List.singleton_append, show (((a' ++ [y]).length : Nat) : Int) - 1 = (a'.length : Int) by simp]; exact rdA133 a' y (x :: b)
        rw [if_pos (by rw [List.length_append, List.length_singleton]; omega), if_pos (by simp), if_pos (by omega), hrd2]
        simp only [bl_s]
        by_cases c : cmpS y.f0 x.f0 < 0
        · rw [if_pos c]
          exact tail true rfl (by rw [prevL_snoc]; exact decide_eq_true c)
        · rw [if_neg c, prevL_snoc]
          simp only []
          rw [decide_eq_false c]; rfl
    · rw [if_neg hn, Bool.eq_false_iff.mpr hn]; rfl
theorem sDisk_l0 (ro nx : Int) (nd : List Nd) (di : List Lk) (n0 : 1 ≤ nx) (n1 : nx ≤ 1000000) (h0 : nd.length ≤ 10) (hz : ∀ x ∈ nd, x.f1.size ≤ 1048676) (h1 : di.length ≤ 10) (hd : ∀ x ∈ di, x.f0.size ≤ 1048676) (mvs : List Mv) (h2 : mvs.length ≤ 20) (hs : ∀ m ∈ mvs, m.f1.size ≤ 1048676 ∧ m.f2.size ≤ 1048676) : ∀ (b a : List Nd) (k : Nat), a ++ b = nd → b.length + 1048900 < k →
    spec_DiskOk.l0 k (a.length : Int) ro nx nd di mvs = some (nodR nx (prevN a) b && nodOwn di mvs b && (dirR nd none [] di && (mvsR nd (di.map fun y => y.f1) di mvs).isSome))
  | [], a, k, e, hk => by
    obtain ⟨q, rfl⟩ : ∃ m, k = m + 1 := ⟨k - 1, by omega⟩
    have ha : a = nd := by simpa using e
    subst ha
    simp only [spec_DiskOk.l0]
    rw [if_neg (by simp)]
    have f := sDisk_l1 ro nx a di (by omega) (by omega) hd mvs h2 hs di [] q (by simp) (fun R h e => by rw [e]; exact (dirR_srt a di none [] h).1) (by omega)
    simp only [List.length_nil] at f
    rw [show ((0 : Nat) : Int) = 0 from rfl] at f
    rw [f]; simp [nodR, nodOwn, prevL]
  | x :: b, a, k, e, hk => by
    simp only [List.length_cons] at hk
    have hlen := congrArg List.length e
    rw [List.length_append, List.length_cons] at hlen
    obtain ⟨q, rfl⟩ : ∃ m, k = m + 1 := ⟨k - 1, by omega⟩
    have hrd : rd_T130 nd (a.length : Int) = x := by rw [← e]; exact rdA130 a x b
    have hx := hz x (by rw [← e]; simp)
    have ih := sDisk_l0 ro nx nd di n0 n1 h0 hz h1 hd mvs h2 hs b (a ++ [x]) q (by rw [List.append_assoc]; exact e) (by omega)
    rw [show (((a ++ [x]).length : Nat) : Int) = (a.length : Int) + 1 by simp, prevN_snoc] at ih
    have hnod : nodR nx (prevN a) (x :: b) = (decide (1 ≤ x.f0 ∧ x.f0 ≤ nx - 1) && (match prevN a with | none => true | some q => decide (q < x.f0)) && decide (0 ≤ x.f2 ∧ x.f2 ≤ (x.f1.size : Int)) && nodR nx (some x.f0) b) := by
      cases prevN a <;> rfl
    have hown : nodOwn di mvs (x :: b) = ((decide (x.f0 ∈ di.map (fun y => y.f1)) || decide (x.f0 ∈ madeM mvs)) && nodOwn di mvs b) := rfl
    simp only [spec_DiskOk.l0]
    rw [if_pos (by omega), if_pos (by omega), hrd, spec_l1In_run, spec_l1In_run]
    simp only [Option.bind_some, decide_eq_true_eq]
    rw [l4Linked_f di x.f0 (by omega) q (by omega), l4Made_f mvs x.f0 (by omega) q (by omega)]
    simp only [Option.bind_some, decide_eq_true_eq]
    rw [w64 (n := nx - 1) (by omega) (by omega), w64 (n := (a.length : Int) + 1) (by omega) (by omega), w64 (n := (a.length : Int) - 1) (by omega) (by omega), ih, hnod, hown]
    generalize nodR nx (some x.f0) b = A
    generalize nodOwn di mvs b = B
    generalize (dirR nd none [] di && (mvsR nd (di.map fun y => y.f1) di mvs).isSome) = C
    have own : (if x.f0 ∈ di.map (fun y => y.f1) then some (A && B && C) else if x.f0 ∈ madeM mvs then some (A && B && C) else some false) = some (A && ((decide (x.f0 ∈ di.map (fun y => y.f1)) || decide (x.f0 ∈ madeM mvs)) && B) && C) := by
      by_cases c1 : x.f0 ∈ di.map (fun y => y.f1)
      · rw [if_pos c1, decide_eq_true c1]; rfl
      · rw [if_neg c1, decide_eq_false c1, Bool.false_or]
        by_cases c2 : x.f0 ∈ madeM mvs
        · rw [if_pos c2, decide_eq_true c2]; rfl
        · rw [if_neg c2, decide_eq_false c2]; simp
    by_cases c1 : 1 ≤ x.f0 ∧ x.f0 ≤ nx - 1
    · rw [if_pos c1, decide_eq_true c1, Bool.true_and]
      by_cases c2 : 0 ≤ x.f2 ∧ x.f2 ≤ (x.f1.size : Int)
      · rw [if_pos c2, decide_eq_true c2, Bool.and_true]
        by_cases ha : a = []
        · subst ha
          rw [if_neg (by simp), own]; rfl
        · obtain ⟨a', y, rfl⟩ := snoc_of a ha
          have hrd2 : rd_T130 nd (((a' ++ [y]).length : Int) - 1) = y := by
            rw [← e, List.append_assoc, List.singleton_append, show (((a' ++ [y]).length : Nat) : Int) - 1 = (a'.length : Int) by simp]; exact rdA130 a' y (x :: b)
          rw [if_pos (by rw [List.length_append, List.length_singleton]; omega), if_pos (by simp), if_pos (by omega), hrd2, prevN_snoc]
          simp only []
          by_cases c3 : y.f0 < x.f0
          · rw [if_neg (by omega), own, decide_eq_true c3, Bool.true_and]
          · rw [if_pos (by omega), decide_eq_false c3]; rfl
      · rw [if_neg c2, decide_eq_false c2]; simp
    · rw [if_neg c1, decide_eq_false c1]; simp
theorem sDiskOk_f (ro nx : Int) (nd : List Nd) (di : List Lk) (mvs : List Mv) (h0 : nd.length ≤ 1048600) (hz : ∀ x ∈ nd, x.f1.size ≤ 1048676) (h1 : di.length ≤ 1048590) (hd : ∀ x ∈ di, x.f0.size ≤ 1048676) (h2 : mvs.length ≤ 1048600) (hs : ∀ m ∈ mvs, m.f1.size ≤ 1048676 ∧ m.f2.size ≤ 1048676) (k : Nat) (hk : 2097300 < k) : spec_DiskOk.f k ro nx nd di mvs = some (okM ro nx nd di mvs) := by
  obtain ⟨q, rfl⟩ : ∃ m, k = m + 1 := ⟨k - 1, by omega⟩
  have key : ∀ t, spec_DiskOk.j0 (q + 1) t ro nx nd di mvs = if t = true then some false else (if usedR nd > ro then some false else spec_DiskOk.l0 q 0 ro nx nd di mvs) := by
    intro t
    simp only [spec_DiskOk.j0]
    rw [l4Bytes_f ro nx nd di mvs (by omega) (fun x hx => by have := hz x hx; omega) q (by omega)]
    simp only [Option.bind_some]
  have O := okM_spec ro nx nd di mvs
  have no : ∀ {p : Prop}, ¬ p → ((okM ro nx nd di mvs = true) → p) → okM ro nx nd di mvs = false := fun hp h => Bool.eq_false_iff.mpr (fun hh => hp (h hh))
  unfold spec_DiskOk.f
  rw [spec_l1In_run, spec_l1In_run]
  simp only [Option.bind_some, decide_eq_true_eq, key]
  by_cases c1 : 0 ≤ ro ∧ ro ≤ 1048576
  · rw [if_pos c1]
    by_cases c2 : 1 ≤ nx ∧ nx ≤ 1000000
    · rw [if_pos c2]
      by_cases c3 : (nd.length : Int) ≤ 10
      · rw [if_neg (show ¬ ((nd.length : Int) > 10) by omega)]
        by_cases c4 : (mvs.length : Int) ≤ 20
        · rw [if_neg (show ¬ ((mvs.length : Int) > 20) by omega)]
          by_cases c5 : (di.length : Int) ≤ 10
          · rw [if_neg (by omega)]
            by_cases c6 : usedM nd ≤ ro
            · rw [if_neg (by rw [← usedM_eq]; omega)]
              have f := sDisk_l0 ro nx nd di c2.1 c2.2 (by omega) hz (by omega) hd mvs (by omega) hs nd [] q (by simp) (by omega)
              simp only [List.length_nil] at f
              rw [show ((0 : Nat) : Int) = 0 from rfl] at f
              rw [f]
              congr 1
              rw [Bool.eq_iff_iff, O]
              simp only [Bool.and_eq_true, prevN, nodOwn, List.all_eq_true, Bool.or_eq_true, decide_eq_true_eq]
              exact ⟨fun ⟨⟨g1, g2⟩, g3, g4⟩ => ⟨c1, c2, c3, c4, c5, c6, g1, g2, g3, g4⟩, fun ⟨_, _, _, _, _, _, g1, g2, g3, g4⟩ => ⟨⟨g1, g2⟩, g3, g4⟩⟩
            · rw [if_pos (by rw [← usedM_eq]; omega), no c6 (fun h => (O.1 h).2.2.2.2.2.1)]
          · rw [if_pos (by omega), no c5 (fun h => (O.1 h).2.2.2.2.1)]
        · rw [if_pos (show ((mvs.length : Int) > 20) by omega), no c4 (fun h => (O.1 h).2.2.2.1)]
          rfl
      · rw [if_pos (show ((nd.length : Int) > 10) by omega), no c3 (fun h => (O.1 h).2.2.1)]
        rfl
    · rw [if_neg c2, no c2 (fun h => (O.1 h).2.1)]
      rfl
  · rw [if_neg c1, no c1 (fun h => (O.1 h).1)]
    rfl

/-! the program's loops over a disk -/
theorem nameOk_run (s : ByteArray) (hs : s.size ≤ 1048676) : ∀ (d k : Nat) (i : Int), 0 ≤ i → i + d = s.size → d < k → impl_nameOk.l0 k s (s.size : Int) i = some (((bytesOf s).drop i.toNat).all nameB && decide (1 ≤ (s.size : Int) ∧ (s.size : Int) ≤ 12)) := by
  intro d
  induction d with
  | zero =>
    intro k i h0 h1 hk
    obtain ⟨q, rfl⟩ : ∃ m, k = m + 1 := ⟨k - 1, by omega⟩
    simp only [impl_nameOk.l0]
    rw [if_neg (by omega), List.drop_of_length_le (by rw [bytesOf_length]; omega), impl_from_run]; rfl
  | succ d ih =>
    intro k i h0 h1 hk
    obtain ⟨q, rfl⟩ : ∃ m, k = m + 1 := ⟨k - 1, by omega⟩
    have f := ih q (i + 1) (by omega) (by omega) (by omega)
    simp only [impl_nameOk.l0]
    rw [if_pos (by omega), if_pos h0, if_pos (by omega), w64 (n := i + 1) (by omega) (by omega), f, bt_drop h0 (by omega), List.all_cons, show (i + 1).toNat = i.toNat + 1 by omega]
    generalize bt s i = v
    generalize ((bytesOf s).drop (i.toNat + 1)).all nameB = R
    generalize decide (1 ≤ (s.size : Int) ∧ (s.size : Int) ≤ 12) = E
    have e : nameB v = decide ((97 ≤ v ∧ v ≤ 122) ∨ (48 ≤ v ∧ v ≤ 57) ∨ v = 46) := rfl
    by_cases hv : (97 ≤ v ∧ v ≤ 122) ∨ (48 ≤ v ∧ v ≤ 57) ∨ v = 46
    · rw [e, decide_eq_true hv, Bool.true_and]
      repeat' split
      all_goals (first | rfl | (exfalso; omega))
    · rw [e, decide_eq_false hv, Bool.false_and, Bool.false_and]
      repeat' split
      all_goals (first | rfl | (exfalso; omega))
theorem nameOk_f (s : ByteArray) (hs : s.size ≤ 1048676) (k : Nat) (hk : s.size < k) : impl_nameOk.f k s = some (nameM s) := by
  unfold impl_nameOk.f
  rw [nameOk_run s hs s.size k 0 (by omega) (by omega) hk, nameM, Bool.and_comm]; rfl
theorem index_run (v : Int) : ∀ (b a : List Int) (k : Nat), a.length + b.length ≤ 2097152 → b.length < k → ∃ n, slices_Index_int_int.l0 k (a ++ b) v (((a ++ b).length : Nat) : Int) (a.length : Int) = some n ∧ (0 ≤ n ↔ v ∈ b)
  | [], a, k, h0, hk => by
    obtain ⟨q, rfl⟩ : ∃ m, k = m + 1 := ⟨k - 1, by omega⟩
    simp only [slices_Index_int_int.l0]; rw [if_neg (by simp)]; exact ⟨_, rfl, by simp⟩
  | x :: b, a, k, h0, hk => by
    simp only [List.length_cons] at h0 hk
    obtain ⟨q, rfl⟩ : ∃ m, k = m + 1 := ⟨k - 1, by omega⟩
    obtain ⟨n, f, g⟩ := index_run v b (a ++ [x]) q (by simp; omega) (by omega)
    rw [List.append_assoc, List.singleton_append, show (((a ++ [x]).length : Nat) : Int) = (a.length : Int) + 1 by simp] at f
    have hrd : rd (a ++ x :: b) (a.length : Int) = x := by simp [rd, List.getD]
    simp only [slices_Index_int_int.l0]
    rw [if_pos (by simp; omega), if_pos (by omega), if_pos (by simp; omega), hrd, w64 (n := (a.length : Int) + 1) (by omega) (by omega), f]
    by_cases c : v = x
    · rw [if_pos c]; exact ⟨_, rfl, by subst c; exact ⟨fun _ => List.mem_cons_self, fun _ => by omega⟩⟩
    · rw [if_neg c]; exact ⟨n, rfl, by rw [g, List.mem_cons]; exact ⟨fun h => .inr h, fun h => h.resolve_left c⟩⟩
theorem contains_f (l : List Int) (v : Int) (h0 : l.length ≤ 1048676) (k : Nat) (hk : l.length < k) : slices_Contains_int_int.f k l v = some (decide (v ∈ l)) := by
  obtain ⟨n, f, g⟩ := index_run v l [] k (by simp; omega) hk
  unfold slices_Contains_int_int.f slices_Index_int_int.f
  rw [List.nil_append] at f
  rw [show (0 : Int) = ((([] : List Int).length : Nat) : Int) from rfl, f]
  simp only [Option.bind_some]
  congr 1
  rw [Bool.eq_iff_iff, decide_eq_true_eq, decide_eq_true_eq]; exact g
theorem linkAt_f (l : List Lk) (s : ByteArray) (hs : Srt l) (h0 : l.length ≤ 1048676) : impl_linkAt.f l s = some ((posM l s : Int), (idM l s).isSome) := by
  have hp := posM_le l s
  unfold impl_linkAt.f
  rw [if_pos (by omega), bsn_pos l s hs l.length 0 l.length (by omega) (by omega) (by omega) (by omega) (by omega)]
  have A := pos_id l s hs
  congr 2
  cases hd : idM l s with
  | some i =>
    rw [hd] at A
    rw [decide_eq_true (show (posM l s : Int) < (l.length : Int) by omega), A.2]; simp [cs_self]
  | none =>
    rw [hd] at A
    cases hc : (decide ((posM l s : Int) < (l.length : Int)) && (cmpS (rd_T133 l (posM l s : Int)).f0 s == 0)) with
    | false => rfl
    | true =>
      rw [Bool.and_eq_true, decide_eq_true_eq, beq_iff_eq] at hc
      exact absurd ⟨by omega, hc.2⟩ A
theorem linked_f (l : List Lk) (x0 : ByteArray) (x1 : Int) (hs : Srt l) (h0 : l.length ≤ 1048676) : impl_linked.f l x0 x1 = some (insR (delM x0 l) ⟨x0, x1⟩) := by
  have hd := delM_length x0 l
  have hp := posM_le (delM x0 l) x0
  unfold impl_linked.f
  rw [if_pos (by omega)]
  unfold insL
  rw [bsn_pos (delM x0 l) x0 (delM_srt x0 hs) (delM x0 l).length 0 (delM x0 l).length (by omega) (by omega) (by omega) (by omega) (by omega), show ((posM (delM x0 l) x0 : Int)).toNat = posM (delM x0 l) x0 by omega]
  exact congrArg some (insR_eq (delM x0 l) ⟨x0, x1⟩)
theorem unlinked_f (l : List Lk) (s : ByteArray) (h0 : l.length ≤ 1048676) : impl_unlinked.f l s = some (delM s l) := by
  unfold impl_unlinked.f; rw [if_pos (by omega)]
theorem applied_f (l : List Lk) (m : Mv) (hs : Srt l) (h0 : l.length ≤ 1048650) (hm2 : m.f2.size ≤ 1048676) (k : Nat) (hk : 1048690 < k) : ∃ d b, impl_applied.f k l m.f0 m.f1 m.f2 m.f3 = some (d, b) ∧ (nameM m.f1 = true → match appM l m with | some l' => d = l' ∧ b = true | none => b = false) := by
  obtain ⟨q, rfl⟩ : ∃ m, k = m + 1 := ⟨k - 1, by omega⟩
  have hd := delM_length m.f1 l
  have A := pos_id l m.f1 hs
  unfold impl_applied.f
  rw [linkAt_f l m.f1 hs (by omega)]
  simp only [Option.bind_some, tl_nil]
  rw [linked_f l m.f1 m.f3 hs (by omega), unlinked_f l m.f1 (by omega)]
  simp only [Option.bind_some]
  have fin : ∀ (n : Bool) (X : Option (List Lk)), ((nameM m.f1 = true → appM l m = X)) → (match X with | some l' => n = true | none => n = false) → ∀ d, (∀ l', X = some l' → d = l') → ∃ d' b', (some (d, n) : Option (List Lk × Bool)) = some (d', b') ∧ (nameM m.f1 = true → match appM l m with | some l' => d' = l' ∧ b' = true | none => b' = false) := by
    intro n X hX hn d hd
    refine ⟨d, n, rfl, fun h => ?_⟩
    rw [hX h]
    cases X with
    | none => exact hn
    | some l' => exact ⟨hd l' rfl, hn⟩
  have app : nameM m.f1 = true → appM l m = (if m.f0 = 1 then (if idM l m.f1 = none ∧ m.f2.size = 0 then some (insR (delM m.f1 l) ⟨m.f1, m.f3⟩) else none)
    else if m.f0 = 2 then (match idM l m.f1 with
      | some i => if m.f3 = 0 ∧ nameM m.f2 = true ∧ m.f2 ≠ m.f1 then some (insR (delM m.f2 (delM m.f1 l)) ⟨m.f2, i⟩) else none
      | none => none)
    else if m.f0 = 3 then (if idM l m.f1 ≠ none ∧ m.f2.size = 0 ∧ m.f3 = 0 then some (delM m.f1 l) else none)
    else none) := by
    intro h
    unfold appM
    rw [if_pos h]
  by_cases h1 : m.f0 = 1
  · rw [if_pos h1]
    cases hi : idM l m.f1 with
    | some i =>
      rw [hi] at app
      simp only [Option.isSome_some]
      rw [if_pos trivial]
      refine fin false none (fun h => by rw [app h, if_pos h1, if_neg (fun h => by cases h.1)]) rfl _ (fun l' h => by cases h)
    | none =>
      rw [hi] at app
      simp only [Option.isSome_none]
      rw [if_neg (by decide)]
      by_cases h2 : m.f2.size = 0
      · refine fin _ (some _) (fun h => by rw [app h, if_pos h1, if_pos ⟨rfl, h2⟩]) (beq_iff_eq.mpr (tl_nil.2 h2)) _ (fun l' h => by cases h; rfl)
      · refine fin _ none (fun h => by rw [app h, if_pos h1, if_neg (fun h => h2 h.2)]) (beq_eq_false_iff_ne.mpr (fun h => h2 (tl_nil.1 h))) _ (fun l' h => by cases h)
  · rw [if_neg h1]
    by_cases h2 : m.f0 = 2
    · rw [if_pos h2]
      have no : ∀ (X : nameM m.f1 = true → appM l m = none) (p : Int), ∃ d' b', impl_applied.j0 (q + 1) l p true m.f0 m.f1 m.f2 m.f3 = some (d', b') ∧ (nameM m.f1 = true → match appM l m with | some l' => d' = l' ∧ b' = true | none => b' = false) := by
        intro X p
        simp only [impl_applied.j0]
        rw [if_pos trivial]
        exact fin false none X rfl _ (fun l' h => by cases h)
      cases hi : idM l m.f1 with
      | none =>
        rw [hi] at app
        simp only [Option.isSome_none]
        rw [if_neg (by decide)]
        exact no (fun h => by rw [app h, if_neg h1, if_pos h2]) _
      | some i =>
        rw [hi] at app A
        simp only [Option.isSome_some]
        rw [if_pos trivial]
        by_cases c1 : m.f3 = 0
        · rw [if_pos c1, nameOk_f m.f2 hm2 _ (by omega)]
          simp only [Option.bind_some]
          by_cases c2 : nameM m.f2 = true
          · rw [if_pos c2]
            by_cases c3 : m.f2 = m.f1
            · rw [beq_iff_eq.mpr (tl_iff.2 c3)]
              exact no (fun h => by rw [app h, if_neg h1, if_pos h2]; simp only []; rw [if_neg (fun h => h.2.2 c3)]) _
            · rw [beq_eq_false_iff_ne.mpr (fun h => c3 (tl_iff.1 h))]
              simp only [impl_applied.j0]
              rw [if_neg (by decide), unlinked_f l m.f1 (by omega)]
              simp only [Option.bind_some]
              rw [if_pos (by omega), if_pos (by omega), linked_f (delM m.f1 l) m.f2 _ (delM_srt _ hs) (by omega), A.2]
              simp only [Option.bind_some]
              exact fin true (some _) (fun h => by rw [app h, if_neg h1, if_pos h2]; simp only []; rw [if_pos ⟨c1, c2, c3⟩]) rfl _ (fun l' h => by cases h; rfl)
          · rw [if_neg c2]
            exact no (fun h => by rw [app h, if_neg h1, if_pos h2]; simp only []; rw [if_neg (fun h => c2 h.2.1)]) _
        · rw [if_neg c1]
          exact no (fun h => by rw [app h, if_neg h1, if_pos h2]; simp only []; rw [if_neg (fun h => c1 h.1)]) _
    · rw [if_neg h2]
      by_cases h3 : m.f0 = 3
      · rw [if_pos h3]
        cases hi : idM l m.f1 with
        | none =>
          rw [hi] at app
          simp only [Option.isSome_none]
          rw [if_neg (by decide)]
          exact fin false none (fun h => by rw [app h, if_neg h1, if_neg h2, if_pos h3, if_neg (fun h => h.1 rfl)]) rfl _ (fun l' h => by cases h)
        | some i =>
          rw [hi] at app
          simp only [Option.isSome_some]
          rw [if_pos trivial]
          by_cases c2 : m.f2.size = 0
          · rw [if_pos c2]
            by_cases c1 : m.f3 = 0
            · exact fin _ (some _) (fun h => by rw [app h, if_neg h1, if_neg h2, if_pos h3, if_pos ⟨(fun h => by cases h), c2, c1⟩]) (beq_iff_eq.mpr c1) _ (fun l' h => by cases h; rfl)
            · exact fin _ none (fun h => by rw [app h, if_neg h1, if_neg h2, if_pos h3, if_neg (fun h => c1 h.2.2)]) (beq_eq_false_iff_ne.mpr c1) _ (fun l' h => by cases h)
          · rw [if_neg c2]
            exact fin false none (fun h => by rw [app h, if_neg h1, if_neg h2, if_pos h3, if_neg (fun h => c2 h.2.1)]) rfl _ (fun l' h => by cases h)
      · rw [if_neg h3]
        exact fin false none (fun h => by rw [app h, if_neg h1, if_neg h2, if_neg h3]) rfl _ (fun l' h => by cases h)
theorem inodesOk_run (ro nx : Int) (nd : List Nd) (di : List Lk) (mv : List Mv) (n0 : 1 ≤ nx) (n1 : nx ≤ 1000000) (h0 : nd.length ≤ 1048600) (hz : ∀ x ∈ nd, x.f1.size ≤ 1048676) : ∀ (b a : List Nd) (k : Nat), a ++ b = nd → b.length < k →
    impl_inodesOk.l0 k (usedR a) nd (nd.length : Int) (a.length : Int) ro nx nd di mv = some (nodR nx (prevN a) b && (decide ((nd.length : Int) ≤ 10) && decide (usedR nd ≤ ro)))
  | [], a, k, e, hk => by
    obtain ⟨q, rfl⟩ : ∃ m, k = m + 1 := ⟨k - 1, by omega⟩
    have ha : a = nd := by simpa using e
    subst ha
    simp only [impl_inodesOk.l0]
    rw [if_neg (by omega)]
    by_cases c : (a.length : Int) ≤ 10
    · rw [if_pos c, decide_eq_true c]; simp [nodR]
    · rw [if_neg c, decide_eq_false c]; simp
  | x :: b, a, k, e, hk => by
    simp only [List.length_cons] at hk
    have hlen := congrArg List.length e
    rw [List.length_append, List.length_cons] at hlen
    obtain ⟨q, rfl⟩ : ∃ m, k = m + 1 := ⟨k - 1, by omega⟩
    have hrd : rd_T130 nd (a.length : Int) = x := by rw [← e]; exact rdA130 a x b
    have hx := hz x (by rw [← e]; simp)
    have hu := usedR_le a (fun y hy => by have := hz y (by rw [← e]; exact List.mem_append.2 (.inl hy)); omega)
    have hsum : ∀ (a : List Nd), usedR (a ++ [x]) = usedR a + (x.f1.size : Int) := by
      intro a
      induction a with
      | nil => simp [usedR]
      | cons y r ih => rw [List.cons_append, usedR, usedR, ih, Int.add_assoc]
    have ih := inodesOk_run ro nx nd di mv n0 n1 h0 hz b (a ++ [x]) q (by rw [List.append_assoc]; exact e) (by omega)
    rw [show (((a ++ [x]).length : Nat) : Int) = (a.length : Int) + 1 by simp, prevN_snoc, hsum] at ih
    have hnod : nodR nx (prevN a) (x :: b) = (decide (1 ≤ x.f0 ∧ x.f0 ≤ nx - 1) && (match prevN a with | none => true | some q => decide (q < x.f0)) && decide (0 ≤ x.f2 ∧ x.f2 ≤ (x.f1.size : Int)) && nodR nx (some x.f0) b) := by
      cases prevN a <;> rfl
    simp only [impl_inodesOk.l0]
    rw [if_pos (by omega), if_pos (by omega), if_pos (by omega), hrd, impl_from_run, impl_from_run]
    simp only [Option.bind_some, decide_eq_true_eq]
    rw [w64 (n := nx - 1) (by omega) (by omega), w64 (n := (a.length : Int) + 1) (by omega) (by omega), w64 (n := (a.length : Int) - 1) (by omega) (by omega), w64 (n := usedR a + (x.f1.size : Int)) (by omega) (by omega), ih, hnod]
    generalize nodR nx (some x.f0) b = A
    generalize (decide ((nd.length : Int) ≤ 10) && decide (usedR nd ≤ ro)) = C
    by_cases c1 : 1 ≤ x.f0 ∧ x.f0 ≤ nx - 1
    · rw [if_pos c1, decide_eq_true c1, Bool.true_and]
      have sure : ∀ P : Bool, P = true → (if 0 ≤ x.f2 ∧ x.f2 ≤ (x.f1.size : Int) then some (A && C) else some false) = some (P && decide (0 ≤ x.f2 ∧ x.f2 ≤ (x.f1.size : Int)) && A && C) := by
        intro P hP
        rw [hP, Bool.true_and]
        by_cases c2 : 0 ≤ x.f2 ∧ x.f2 ≤ (x.f1.size : Int)
        · rw [if_pos c2, decide_eq_true c2, Bool.true_and]
        · rw [if_neg c2, decide_eq_false c2]; rfl
      by_cases ha : a = []
      · subst ha
        rw [if_neg (by simp), sure true rfl]; rfl
      · obtain ⟨a', y, rfl⟩ := snoc_of a ha
        have hrd2 : rd_T130 nd (((a' ++ [y]).length : Int) - 1) = y := by
          rw [← e, List.append_assoc, List.singleton_append, show (((a' ++ [y]).length : Nat) : Int) - 1 = (a'.length : Int) by simp]; exact rdA130 a' y (x :: b)
        rw [if_pos (by rw [List.length_append, List.length_singleton]; omega), if_pos (by simp), if_pos (by omega), hrd2, prevN_snoc]
        simp only []
        by_cases c3 : y.f0 < x.f0
        · rw [if_neg (by omega), sure _ (decide_eq_true c3)]
        · rw [if_pos (by omega), decide_eq_false c3]; simp
    · rw [if_neg c1, decide_eq_false c1]; simp
theorem inodesOk_f (ro nx : Int) (nd : List Nd) (di : List Lk) (mv : List Mv) (n0 : 1 ≤ nx) (n1 : nx ≤ 1000000) (h0 : nd.length ≤ 1048600) (hz : ∀ x ∈ nd, x.f1.size ≤ 1048676) (k : Nat) (hk : nd.length < k) : impl_inodesOk.f k ro nx nd di mv = some (nodR nx none nd && (decide ((nd.length : Int) ≤ 10) && decide (usedR nd ≤ ro))) := inodesOk_run ro nx nd di mv n0 n1 h0 hz nd [] k rfl hk
theorem inodeAt_f (ro nx i : Int) (nd : List Nd) (di : List Lk) (mv : List Mv) : impl_inodeAt.f ro nx nd di mv i = some (ixf i nd 0) := rfl
theorem iDisk_l1 (ro nx : Int) (nd : List Nd) (di : List Lk) (h1 : di.length ≤ 1048590) (mvs : List Mv) (h2 : mvs.length ≤ 20) (hs : ∀ m ∈ mvs, m.f1.size ≤ 1048676 ∧ m.f2.size ≤ 1048676) : ∀ (b a : List Mv) (l : List Lk) (own : List Int) (k : Nat), a ++ b = mvs → Srt l → l.length ≤ di.length + a.length → own.length ≤ di.length + a.length → 2 * b.length + 1048800 < k →
    impl_DiskOk.l1 k own l mvs (mvs.length : Int) (a.length : Int) ro nx nd di mvs = some (match mvsR nd own l b with | none => false | some o => decide ((o.length : Int) = nd.length))
  | [], a, l, own, k, e, hl, hll, ho, hk => by
    obtain ⟨q, rfl⟩ : ∃ m, k = m + 1 := ⟨k - 1, by omega⟩
    have ha : a = mvs := by simpa using e
    subst ha
    simp only [impl_DiskOk.l1]
    rw [if_neg (by omega), mvsR]
    exact congrArg some (by rw [Bool.eq_iff_iff, beq_iff_eq, decide_eq_true_eq])
  | m :: b, a, l, own, k, e, hl, hll, ho, hk => by
    simp only [List.length_cons] at hk
    have hlen := congrArg List.length e
    rw [List.length_append, List.length_cons] at hlen
    obtain ⟨q, rfl⟩ : ∃ m, k = m + 1 := ⟨k - 1, by omega⟩
    obtain ⟨p, rfl⟩ : ∃ m, q = m + 1 := ⟨q - 1, by omega⟩
    have hrd : rd_T135 mvs (a.length : Int) = m := by rw [← e]; exact rdA135 a m b
    have hm := hs m (by rw [← e]; simp)
    obtain ⟨d, ok, e1, e2⟩ := applied_f l m hl (by omega) hm.2 (p + 1) (by omega)
    have ih : ∀ l' own', appM l m = some l' → own'.length ≤ own.length + 1 → impl_DiskOk.l1 p own' l' mvs (mvs.length : Int) ((a.length : Int) + 1) ro nx nd di mvs = some (match mvsR nd own' l' b with | none => false | some o => decide ((o.length : Int) = nd.length)) := by
      intro l' own' hl' hh
      have f := iDisk_l1 ro nx nd di h1 mvs h2 hs b (a ++ [m]) l' own' p (by rw [List.append_assoc]; exact e) (appM_srt hl hl') (by have := appM_length hl'; simp; omega) (by simp; omega) (by omega)
      rw [show (((a ++ [m]).length : Nat) : Int) = (a.length : Int) + 1 by simp] at f
      exact f
    have no : ∀ d', impl_DiskOk.j3 (p + 1) own d' mvs (mvs.length : Int) (a.length : Int) true ro nx nd di mvs m.f0 m.f1 m.f2 m.f3 = some false := by
      intro d'
      simp only [impl_DiskOk.j3]
      rw [if_pos trivial]
    simp only [impl_DiskOk.l1]
    rw [if_pos (by omega), if_pos (by omega), if_pos (by omega), hrd, e1]
    simp only [Option.bind_some]
    rw [nameOk_f m.f1 hm.1 (p + 1) (by omega)]
    simp only [Option.bind_some]
    have hnone : nameM m.f1 ≠ true → appM l m = none := fun h => by unfold appM; rw [if_neg h]
    by_cases hn : nameM m.f1 = true
    · have e3 := e2 hn
      rw [hn]
      cases hap : appM l m with
      | none =>
        rw [hap] at e3
        simp only [] at e3
        rw [e3, if_neg (by decide), no, mvsR, hap]
      | some l' =>
        rw [hap] at e3
        simp only [] at e3
        obtain ⟨rfl, rfl⟩ := e3
        rw [if_pos rfl, mvsR, hap]
        simp only [impl_DiskOk.j3, Bool.not_true]
        rw [if_neg (by decide), inodeAt_f]
        simp only [Option.bind_some]
        rw [contains_f own m.f3 (by omega) p (by omega), w64 (n := (a.length : Int) + 1) (by omega) (by omega)]
        simp only [Option.bind_some]
        by_cases c : m.f0 = 1
        · rw [if_pos c, if_pos c]
          rcases ixf_range m.f3 nd 0 (by omega) with ⟨r1, r2⟩ | ⟨r1, r2, r3⟩
          · rw [if_pos (by omega), if_neg (fun h => by rw [r2] at h; cases h.1)]
          · rw [if_neg (by omega)]
            by_cases c2 : m.f3 ∈ own
            · rw [if_pos (decide_eq_true c2), if_neg (fun h => h.2 c2)]
            · rw [if_neg (by rw [decide_eq_true_eq]; exact c2), if_pos (by omega), if_pos ⟨r3, c2⟩]
              exact ih d _ hap (by simp)
        · rw [if_neg c, if_neg c]
          exact ih d _ hap (by omega)
    · have hap := hnone hn
      rw [mvsR, hap, Bool.eq_false_iff.mpr hn]
      simp only [Bool.not_false]
      rw [no]
      split <;> rfl
theorem iDisk_l0 (ro nx : Int) (nd : List Nd) (di : List Lk) (h1 : di.length ≤ 1048590) (hd : ∀ x ∈ di, x.f0.size ≤ 1048676) (mvs : List Mv) (h2 : mvs.length ≤ 20) (hs : ∀ m ∈ mvs, m.f1.size ≤ 1048676 ∧ m.f2.size ≤ 1048676) : ∀ (b a : List Lk) (k : Nat), a ++ b = di → (∀ R, dirR nd (prevL a) (a.map fun y => y.f1) b = true → R = (a ++ b) → Srt R) → b.length + 1048900 < k →
    impl_DiskOk.l0 k (a.map fun y => y.f1) di (di.length : Int) (a.length : Int) ro nx nd di mvs = some (dirR nd (prevL a) (a.map fun y => y.f1) b && (match mvsR nd (di.map fun y => y.f1) di mvs with | none => false | some o => decide ((o.length : Int) = nd.length)))
  | [], a, k, e, hR, hk => by
    obtain ⟨q, rfl⟩ : ∃ m, k = m + 1 := ⟨k - 1, by omega⟩
    have ha : a = di := by simpa using e
    subst ha
    have hsrt := hR a (by simp [dirR]) (by simp)
    simp only [impl_DiskOk.l0]
    rw [if_neg (by omega)]
    have f := iDisk_l1 ro nx nd a h1 mvs h2 hs mvs [] a (a.map fun y => y.f1) q (by simp) hsrt (by simp) (by simp) (by omega)
    simp only [List.length_nil] at f
    rw [show ((0 : Nat) : Int) = 0 from rfl] at f
    rw [f]; simp [dirR]
  | x :: b, a, k, e, hR, hk => by
    simp only [List.length_cons] at hk
    have hlen := congrArg List.length e
    rw [List.length_append, List.length_cons] at hlen
    obtain ⟨q, rfl⟩ : ∃ m, k = m + 1 := ⟨k - 1, by omega⟩
    have hrd : rd_T133 di (a.length : Int) = x := by rw [← e]; exact rdA133 a x b
    have hx := hd x (by rw [← e]; simp)
    have ih := fun hh => iDisk_l0 ro nx nd di h1 hd mvs h2 hs b (a ++ [x]) q (by rw [List.append_assoc]; exact e) hh (by omega)
    rw [show (((a ++ [x]).length : Nat) : Int) = (a.length : Int) + 1 by simp, prevL_snoc, List.map_append, List.map_singleton] at ih
    have hdir : dirR nd (prevL a) (a.map fun y => y.f1) (x :: b) = (nameM x.f0 && (match prevL a with | none => true | some q => decide (cmpS q x.f0 < 0)) && hasM nd x.f1 && !(decide (x.f1 ∈ a.map fun y => y.f1)) && dirR nd (some x.f0) ((a.map fun y => y.f1) ++ [x.f1]) b) := by
      cases prevL a <;> rfl
    simp only [impl_DiskOk.l0]
    rw [if_pos (by omega), if_pos (by omega), if_pos (by omega), hrd, nameOk_f x.f0 (by omega) q (by omega)]
    simp only [Option.bind_some]
    rw [inodeAt_f]
    simp only [Option.bind_some]
    rw [contains_f (a.map fun y => y.f1) x.f1 (by rw [List.length_map]; omega) q (by rw [List.length_map]; omega)]
    simp only [Option.bind_some]
    rw [w64 (n := (a.length : Int) + 1) (by omega) (by omega), w64 (n := (a.length : Int) - 1) (by omega) (by omega), if_pos (show (a.map fun y => y.f1).length < 17592186044416 by rw [List.length_map]; omega)]
    rw [hdir] at hR ⊢
    generalize hM : (match mvsR nd (di.map fun y => y.f1) di mvs with | none => false | some o => decide ((o.length : Int) = nd.length)) = M at ih ⊢
    by_cases hn : nameM x.f0 = true
    · rw [if_pos hn, hn, Bool.true_and]
      rw [hn, Bool.true_and] at hR
      have tail : ∀ (P : Bool), P = true → (match prevL a with | none => true | some q => decide (cmpS q x.f0 < 0)) = P → (if ixf x.f1 nd 0 < 0 then some false else if decide (x.f1 ∈ a.map fun y => y.f1) = true then some false else impl_DiskOk.l0 q ((a.map fun y => y.f1) ++ [x.f1]) di (di.length : Int) ((a.length : Int) + 1) ro nx nd di mvs) = some ((match prevL a with | none => true | some q => decide (cmpS q x.f0 < 0)) && hasM nd x.f1 && !(decide (x.f1 ∈ a.map fun y => y.f1)) && dirR nd (some x.f0) ((a.map fun y => y.f1) ++ [x.f1]) b && M) := by
        intro P hP hQ
        rw [hQ, hP] at hR ⊢
        rw [Bool.true_and] at hR ⊢
        rcases ixf_range x.f1 nd 0 (by omega) with ⟨r1, r2⟩ | ⟨r1, r2, r3⟩
        · rw [if_pos (by omega), r2]; rfl
        · rw [if_neg (by omega), r3, Bool.true_and]
          rw [r3, Bool.true_and] at hR
          by_cases c2 : x.f1 ∈ a.map fun y => y.f1
          · rw [if_pos (decide_eq_true c2), decide_eq_true c2]; rfl
          · rw [if_neg (by rw [decide_eq_true_eq]; exact c2), decide_eq_false c2, ih (fun R h1 h2 => hR R (by rw [decide_eq_false c2]; simpa using h1) (by rw [h2]; simp))]
            rfl
      by_cases ha : a = []
      · subst ha
        rw [if_neg (by simp)]
        exact tail true rfl rfl
      · obtain ⟨a', y, rfl⟩ := snoc_of a ha
        have hrd2 : rd_T133 di (((a' ++ [y]).length : Int) - 1) = y := by
          rw [← e, List.append_assoc, List.singleton_append, show (((a' ++ [y]).length : Nat) : Int) - 1 = (a'.length : Int) by simp]; exact rdA133 a' y (x :: b)
        rw [if_pos (by rw [List.length_append, List.length_singleton]; omega), if_pos (by simp), if_pos (by omega), hrd2]
        simp only [bl_s]
        by_cases c : cmpS y.f0 x.f0 < 0
        · rw [if_pos c]
          exact tail true rfl (by rw [prevL_snoc]; exact decide_eq_true c)
        · rw [if_neg c, prevL_snoc]
          simp only []
          rw [decide_eq_false c]; rfl
    · rw [if_neg hn, Bool.eq_false_iff.mpr hn]; rfl
theorem iDiskOk_f (ro nx : Int) (nd : List Nd) (di : List Lk) (mvs : List Mv) (h0 : nd.length ≤ 1048600) (hz : ∀ x ∈ nd, x.f1.size ≤ 1048676) (h1 : di.length ≤ 1048590) (hd : ∀ x ∈ di, x.f0.size ≤ 1048676) (h2 : mvs.length ≤ 1048600) (hs : ∀ m ∈ mvs, m.f1.size ≤ 1048676 ∧ m.f2.size ≤ 1048676) (k : Nat) (hk : 2097500 < k) : impl_DiskOk.f k ro nx nd di mvs = some (okM ro nx nd di mvs) := by
  obtain ⟨q, rfl⟩ : ∃ m, k = m + 1 := ⟨k - 1, by omega⟩
  have no : impl_DiskOk.j0 (q + 1) true ro nx nd di mvs = some false := by simp only [impl_DiskOk.j0]; rw [if_pos trivial]
  unfold impl_DiskOk.f okM
  rw [impl_from_run, impl_from_run]
  simp only [Option.bind_some, decide_eq_true_eq]
  by_cases c1 : 0 ≤ ro ∧ ro ≤ 1048576
  · rw [if_pos c1, decide_eq_true c1, Bool.true_and]
    by_cases c2 : 1 ≤ nx ∧ nx ≤ 1000000
    · rw [if_pos c2, decide_eq_true c2, Bool.true_and, inodesOk_f ro nx nd di mvs c2.1 c2.2 h0 hz _ (by omega), usedM_eq]
      simp only [Option.bind_some]
      by_cases c3 : (nodR nx none nd && (decide ((nd.length : Int) ≤ 10) && decide (usedR nd ≤ ro))) = true
      · rw [if_pos c3]
        rw [Bool.and_eq_true, Bool.and_eq_true] at c3
        rw [c3.1, c3.2.1, c3.2.2, Bool.true_and, Bool.true_and, Bool.true_and]
        by_cases c4 : (mvs.length : Int) ≤ 20
        · simp only [impl_DiskOk.j0]
          have f := iDisk_l0 ro nx nd di h1 hd mvs (by omega) hs di [] q (by simp) (fun R h e => by rw [e]; exact (dirR_srt nd di none [] h).1) (by omega)
          simp only [List.length_nil, List.map_nil] at f
          rw [show ((0 : Nat) : Int) = 0 from rfl] at f
          rw [if_neg (by rw [decide_eq_true_eq]; omega), f, decide_eq_true c4, Bool.true_and]; rfl
        · rw [decide_eq_true (show (mvs.length : Int) > 20 by omega), no, decide_eq_false c4]; rfl
      · rw [if_neg c3, no]
        congr 1
        symm
        rw [← Bool.not_eq_true] at *
        intro h
        apply c3
        simp only [Bool.and_eq_true] at h ⊢
        exact ⟨h.1.1.1.1.1, h.1.1.1.1.2, h.1.1.1.2⟩
    · rw [if_neg c2, no, decide_eq_false c2]; simp
  · rw [if_neg c1, no, decide_eq_false c1]; simp

/-! the laws' own loops over a disk -/
abbrev Ni := S121
abbrev Ki := S124
abbrev Vi := S127
structure Fine (nd : List Nd) (di : List Lk) (mv : List Mv) : Prop where
  n : nd.length ≤ 1048576
  d : di.length ≤ 1048576
  m : mv.length ≤ 1048576
  nz : ∀ x ∈ nd, x.f1.size ≤ 1048576
  dz : ∀ x ∈ di, x.f0.size ≤ 1048576
  mz : ∀ x ∈ mv, x.f1.size ≤ 1048576 ∧ x.f2.size ≤ 1048576
theorem szDisk_f (a b : Int) (ni : List Ni) (di : List Ki) (mv : List Vi) (l : Int) (hl0 : 0 ≤ l) (hl1 : l ≤ 1048576) (m0 : ni.length ≤ maxLen) (m1 : di.length ≤ maxLen) (m2 : mv.length ≤ maxLen) (g0 : ∀ z ∈ ni, z.f1.size ≤ maxLen) (g1 : ∀ z ∈ di, z.f0.size ≤ maxLen) (g2 : ∀ z ∈ mv, z.f1.size ≤ maxLen ∧ z.f2.size ≤ maxLen) (k : Nat) (hk : 1048577 < k) :
    ∃ r, laws_szDisk.f k a b ni di mv l = some r ∧ -1 ≤ r ∧ r ≤ l ∧ (0 ≤ r → Fine (ni.map cvInode) (di.map cvLink) (mv.map cvMove)) := by
  unfold laws_szDisk.f
  obtain ⟨r, e, r0, r1, r2⟩ := laws_szInodeS_f ni l m0 g0 hl0 hl1 k hk
  rw [e]; simp only [Option.bind_some]
  by_cases hr : r < 0
  · rw [if_pos hr]; exact ⟨-1, rfl, by omega, by omega, fun h => by omega⟩
  · rw [if_neg hr]
    obtain ⟨s, e, s0, s1, s2⟩ := laws_szLinkS_f di r m1 g1 (by omega) (by omega) k hk
    rw [e]; simp only [Option.bind_some]
    by_cases hs : s < 0
    · rw [if_pos hs]; exact ⟨-1, rfl, by omega, by omega, fun h => by omega⟩
    · rw [if_neg hs]
      obtain ⟨t, e, t0, t1, t2⟩ := laws_szMoveS_f mv s m2 g2 (by omega) (by omega) k hk
      rw [e]; simp only [Option.bind_some]
      by_cases ht : t < 0
      · rw [if_pos ht]; exact ⟨-1, rfl, by omega, by omega, fun h => by omega⟩
      · rw [if_neg ht]
        obtain ⟨a1, a2⟩ := r2 (by omega)
        obtain ⟨b1, b2⟩ := s2 (by omega)
        obtain ⟨c1, c2⟩ := t2 (by omega)
        refine ⟨t, rfl, by omega, by omega, fun _ => ⟨by rw [List.length_map]; exact a1, by rw [List.length_map]; exact b1, by rw [List.length_map]; exact c1, ?_, ?_, ?_⟩⟩
        · intro x hx
          obtain ⟨y, hy, rfl⟩ := List.mem_map.1 hx
          exact a2 y hy
        · intro x hx
          obtain ⟨y, hy, rfl⟩ := List.mem_map.1 hx
          exact b2 y hy
        · intro x hx
          obtain ⟨y, hy, rfl⟩ := List.mem_map.1 hx
          exact c2 y hy
theorem toDisk_f (a b : Int) (ni : List Ni) (di : List Ki) (mv : List Vi) (h : Fine (ni.map cvInode) (di.map cvLink) (mv.map cvMove)) (k : Nat) (hk : 1048577 < k) :
    laws_toDisk.f k a b ni di mv = some (a, b, ni.map cvInode, di.map cvLink, mv.map cvMove) := by
  have h0 := h.n
  have h1 := h.d
  have h2 := h.m
  rw [List.length_map] at h0 h1 h2
  unfold laws_toDisk.f
  rw [laws_toInodeS_f ni h0 k (by omega), laws_toLinkS_f di h1 k (by omega), laws_toMoveS_f mv h2 k (by omega)]; rfl
theorem eqDisk_f (a b : Int) (nd : List Nd) (di : List Lk) (mv : List Mv) (h0 : nd.length ≤ 2097152) (h1 : di.length ≤ 2097152) (h2 : mv.length ≤ 2097152) (k : Nat) (hk : 2097152 < k) : laws_eqDisk.f k a b nd di mv a b nd di mv = some true := by
  unfold laws_eqDisk.f
  rw [laws_eqInodeS_f nd (by omega) k (by omega), laws_eqLinkS_f di (by omega) k (by omega), laws_eqMoveS_f mv (by omega) k (by omega)]
  simp
theorem sOk (ro nx : Int) {nd : List Nd} {di : List Lk} {mv : List Mv} (h : Fine nd di mv) (k : Nat) (hk : 2097500 < k) : spec_DiskOk.f k ro nx nd di mv = some (okM ro nx nd di mv) := by
  have h0 := h.n
  have h1 := h.d
  have h2 := h.m
  exact sDiskOk_f ro nx nd di mv (by omega) (fun x hx => by have := h.nz x hx; omega) (by omega) (fun x hx => by have := h.dz x hx; omega) (by omega) (fun x hx => by have := h.mz x hx; omega) k (by omega)
theorem iOk (ro nx : Int) {nd : List Nd} {di : List Lk} {mv : List Mv} (h : Fine nd di mv) (k : Nat) (hk : 2097500 < k) : impl_DiskOk.f k ro nx nd di mv = some (okM ro nx nd di mv) := by
  have h0 := h.n
  have h1 := h.d
  have h2 := h.m
  exact iDiskOk_f ro nx nd di mv (by omega) (fun x hx => by have := h.nz x hx; omega) (by omega) (fun x hx => by have := h.dz x hx; omega) (by omega) (fun x hx => by have := h.mz x hx; omega) k (by omega)

/-! names of a disk that is right -/
theorem appM_name {l l' : List Lk} {m : Mv} (h : appM l m = some l') : nameM m.f1 = true := by
  unfold appM at h
  split at h
  · assumption
  · cases h
theorem ok_mov {ro nx : Int} {nd : List Nd} {di : List Lk} {mv : List Mv} (h : okM ro nx nd di mv = true) : ∃ D, movM di mv = some D ∧ Srt di ∧ Srt D ∧ D.length ≤ di.length + mv.length ∧ mv.length ≤ 20 ∧ nd.length ≤ 10 ∧ di.length ≤ 10 := by
  obtain ⟨_, _, h3, h4, h5, _, _, _, h8, h9⟩ := (okM_spec ro nx nd di mv).1 h
  have hs := (dirR_srt nd di none [] h8).1
  cases e : mvsR nd (di.map fun y => y.f1) di mv with
  | none => rw [e] at h9; cases h9
  | some o =>
    obtain ⟨_, _, _, g⟩ := mvsR_own nd mv _ di o e
    cases e2 : movM di mv with
    | none => rw [e2] at g; cases g
    | some D =>
      have q := movM_srt mv hs e2
      exact ⟨D, rfl, hs, q.1, q.2, by omega, by omega, by omega⟩
theorem sNames_run (ro nx : Int) (nd : List Nd) (di : List Lk) (mvs : List Mv) (h2 : mvs.length ≤ 20) (hs : ∀ m ∈ mvs, m.f1.size ≤ 1048576 ∧ m.f2.size ≤ 1048576) (D : List Lk) : ∀ (b a : List Mv) (l : List Lk) (k : Nat), a ++ b = mvs → movM l b = some D → l.length ≤ 10 + a.length → b.length + 1048700 < k →
    spec_l4Names.l0 k (mvs.length : Int) l (a.length : Int) ro nx nd di mvs = some D
  | [], a, l, k, e, hm, hll, hk => by
    obtain ⟨q, rfl⟩ : ∃ m, k = m + 1 := ⟨k - 1, by omega⟩
    subst e
    cases hm
    simp only [spec_l4Names.l0]
    rw [if_neg (by simp)]
  | m :: b, a, l, k, e, hm, hll, hk => by
    simp only [List.length_cons] at hk
    have hlen := congrArg List.length e
    rw [List.length_append, List.length_cons] at hlen
    obtain ⟨q, rfl⟩ : ∃ m, k = m + 1 := ⟨k - 1, by omega⟩
    have hrd : rd_T135 mvs (a.length : Int) = m := by rw [← e]; exact rdA135 a m b
    have hz := hs m (by rw [← e]; simp)
    rw [movM] at hm
    cases hap : appM l m with
    | none => rw [hap] at hm; cases hm
    | some l' =>
      rw [hap] at hm
      have hl' := appM_length hap
      simp only [spec_l4Names.l0]
      rw [if_pos (by omega), if_pos (by omega), if_pos (by omega), hrd, l4Apply_f l m (by omega) (by omega) (by omega) q (by omega), hap]
      simp only [Option.bind_some]
      have f := sNames_run ro nx nd di mvs h2 hs D b (a ++ [m]) l' q (by rw [List.append_assoc]; exact e) hm (by rw [List.length_append, List.length_singleton]; omega) (by omega)
      rw [show (((a ++ [m]).length : Nat) : Int) = (a.length : Int) + 1 by simp] at f
      rw [w64 (n := (a.length : Int) + 1) (by omega) (by omega), f]
theorem iNames_run (mvs : List Mv) (h2 : mvs.length ≤ 20) (hs : ∀ m ∈ mvs, m.f1.size ≤ 1048576 ∧ m.f2.size ≤ 1048576) (D : List Lk) : ∀ (b a : List Mv) (l : List Lk) (k : Nat), a ++ b = mvs → movM l b = some D → Srt l → l.length ≤ 10 + a.length → b.length + 1048700 < k →
    impl_names.l0 k l mvs (mvs.length : Int) (a.length : Int) = some D
  | [], a, l, k, e, hm, hsr, hll, hk => by
    obtain ⟨q, rfl⟩ : ∃ m, k = m + 1 := ⟨k - 1, by omega⟩
    subst e
    cases hm
    simp only [impl_names.l0]
    rw [if_neg (by simp)]
  | m :: b, a, l, k, e, hm, hsr, hll, hk => by
    simp only [List.length_cons] at hk
    have hlen := congrArg List.length e
    rw [List.length_append, List.length_cons] at hlen
    obtain ⟨q, rfl⟩ : ∃ m, k = m + 1 := ⟨k - 1, by omega⟩
    have hrd : rd_T135 mvs (a.length : Int) = m := by rw [← e]; exact rdA135 a m b
    have hz := hs m (by rw [← e]; simp)
    rw [movM] at hm
    cases hap : appM l m with
    | none => rw [hap] at hm; cases hm
    | some l' =>
      rw [hap] at hm
      have hl' := appM_length hap
      obtain ⟨d, ok, e1, e2⟩ := applied_f l m hsr (by omega) (by omega) q (by omega)
      have e3 := e2 (appM_name hap)
      rw [hap] at e3
      simp only [] at e3
      obtain ⟨rfl, rfl⟩ := e3
      simp only [impl_names.l0]
      rw [if_pos (by omega), if_pos (by omega), if_pos (by omega), hrd, e1]
      simp only [Option.bind_some]
      have f := iNames_run mvs h2 hs D b (a ++ [m]) d q (by rw [List.append_assoc]; exact e) hm (appM_srt hsr hap) (by rw [List.length_append, List.length_singleton]; omega) (by omega)
      rw [show (((a ++ [m]).length : Nat) : Int) = (a.length : Int) + 1 by simp] at f
      rw [w64 (n := (a.length : Int) + 1) (by omega) (by omega), f]
theorem sNames_f (ro nx : Int) (nd : List Nd) {di : List Lk} {mv : List Mv} {D : List Lk} (hm : movM di mv = some D) (h1 : di.length ≤ 10) (h2 : mv.length ≤ 20) (hs : ∀ m ∈ mv, m.f1.size ≤ 1048576 ∧ m.f2.size ≤ 1048576) (k : Nat) (hk : 1048800 < k) : spec_l4Names.f k ro nx nd di mv (mv.length : Int) = some D := by
  unfold spec_l4Names.f
  simp only [Option.bind_some, List.nil_append, List.length_nil]
  rw [if_pos (by omega)]
  exact sNames_run ro nx nd di mv h2 hs D mv [] di k rfl hm (by simp; omega) (by omega)
theorem iNames_f {di : List Lk} {mv : List Mv} {D : List Lk} (hm : movM di mv = some D) (hsr : Srt di) (h1 : di.length ≤ 10) (h2 : mv.length ≤ 20) (hs : ∀ m ∈ mv, m.f1.size ≤ 1048576 ∧ m.f2.size ≤ 1048576) (k : Nat) (hk : 1048800 < k) : impl_names.f k di mv = some D := by
  unfold impl_names.f impl_Link_125.f
  rw [if_pos (by omega)]
  simp only [Option.bind_some]
  exact iNames_run mv h2 hs D mv [] di k rfl hm hsr (by simp; omega) (by omega)
def findM (D : List Lk) (nd : List Nd) (s : ByteArray) : Int := match idM D s with | some i => ixf i nd 0 | none => -1
theorem findM_range (D : List Lk) (nd : List Nd) (s : ByteArray) : findM D nd s = -1 ∨ (0 ≤ findM D nd s ∧ findM D nd s < (nd.length : Int)) := by
  unfold findM
  cases idM D s with
  | none => exact .inl rfl
  | some i =>
    rcases ixf_range i nd 0 (by omega) with ⟨h, _⟩ | ⟨h1, h2, _⟩
    · exact .inl h
    · exact .inr ⟨h1, by simp only []; omega⟩
theorem sFind_f (ro nx : Int) {nd : List Nd} {di : List Lk} {mv : List Mv} {D : List Lk} (s : ByteArray) (hm : movM di mv = some D) (h0 : nd.length ≤ 10) (h1 : di.length ≤ 10) (h2 : mv.length ≤ 20) (hD : D.length ≤ 30) (hs : ∀ m ∈ mv, m.f1.size ≤ 1048576 ∧ m.f2.size ≤ 1048576) (k : Nat) (hk : 1048800 < k) : spec_l4Find.f k ro nx nd di mv s = some (findM D nd s) := by
  unfold spec_l4Find.f
  rw [sNames_f ro nx nd hm h1 h2 hs k hk]
  simp only [Option.bind_some]
  rw [l4At_f D s (by omega) k (by omega)]
  simp only [Option.bind_some]
  have A := atM_id s D 0 (by omega)
  unfold findM
  cases hd : idM D s with
  | none => rw [hd] at A; rw [A, if_pos (by decide)]
  | some i =>
    rw [hd] at A
    obtain ⟨n, a1, a2, a3⟩ := A
    rw [if_neg (by omega), if_pos (by omega), if_pos (by omega), l4Inode_f ro nx _ nd di mv (by omega) k (by omega), show (rd_T133 D (atM s D 0)).f1 = i by rw [a1, show (0 : Int) + (n : Int) = n by omega]; exact a3]
    rfl
theorem iFind_f (ro nx : Int) {nd : List Nd} {di : List Lk} {mv : List Mv} {D : List Lk} (s : ByteArray) (hm : movM di mv = some D) (hsr : Srt di) (hsD : Srt D) (h1 : di.length ≤ 10) (h2 : mv.length ≤ 20) (hD : D.length ≤ 30) (hs : ∀ m ∈ mv, m.f1.size ≤ 1048576 ∧ m.f2.size ≤ 1048576) (k : Nat) (hk : 1048800 < k) : impl_find.f k ro nx nd di mv s = some (findM D nd s) := by
  unfold impl_find.f
  rw [iNames_f hm hsr h1 h2 hs k hk]
  simp only [Option.bind_some]
  rw [linkAt_f D s hsD (by omega)]
  simp only [Option.bind_some]
  have A := pos_id D s hsD
  unfold findM
  cases hd : idM D s with
  | none => simp
  | some i =>
    rw [hd] at A
    simp only [Option.isSome_some]
    rw [if_pos trivial, if_pos (by omega), if_pos (by omega), A.2]; rfl

/-! the calls of a disk -/
abbrev Rd := Int × Int × List Nd × List Lk × List Mv × Int
theorem sCopy_f (ro nx : Int) {nd : List Nd} {di : List Lk} {mv : List Mv} (F : Fine nd di mv) : spec_l4Copy.f ro nx nd di mv = some (ro, nx, nd, di, mv) := by
  have h0 := F.n
  have h1 := F.d
  have h2 := F.m
  unfold spec_l4Copy.f
  simp only [Option.bind_some, List.nil_append, List.length_nil]
  rw [if_pos (by omega), if_pos (by omega), if_pos (by omega)]
theorem okFacts {ro nx : Int} {nd : List Nd} {di : List Lk} {mv : List Mv} (h : okM ro nx nd di mv = true) : 0 ≤ ro ∧ ro ≤ 1048576 ∧ 1 ≤ nx ∧ nx ≤ 1000000 ∧ nd.length ≤ 10 ∧ mv.length ≤ 20 ∧ di.length ≤ 10 ∧ usedR nd ≤ ro := by
  obtain ⟨⟨h1, h2⟩, ⟨h3, h4⟩, h5, h6, h7, h8, _⟩ := (okM_spec ro nx nd di mv).1 h
  rw [usedM_eq] at h8
  exact ⟨h1, h2, h3, h4, by omega, by omega, by omega, h8⟩
def Small (r : Rd) : Prop := r.2.2.1.length ≤ 1048600 ∧ r.2.2.2.1.length ≤ 1048600 ∧ r.2.2.2.2.1.length ≤ 1048600 ∧ (r.2.2.2.2.2 = 0 → Fine r.2.2.1 r.2.2.2.1 r.2.2.2.2.1)
theorem Fine.small {nd : List Nd} {di : List Lk} {mv : List Mv} (F : Fine nd di mv) (a b c : Int) : Small (a, b, nd, di, mv, c) := ⟨by have := F.n; show nd.length ≤ _; omega, by have := F.d; show di.length ≤ _; omega, by have := F.m; show mv.length ≤ _; omega, fun _ => F⟩
def namedM (D : List Lk) (nd : List Nd) (s : ByteArray) : Int := if nameM s = true then (if findM D nd s < 0 then 2 else 0) else 1
theorem Fine.addMv {nd : List Nd} {di : List Lk} {mv : List Mv} (F : Fine nd di mv) (m : Mv) (h : mv.length ≤ 20) (hm : m.f1.size ≤ 1048576 ∧ m.f2.size ≤ 1048576) : Fine nd di (mv ++ [m]) := ⟨F.n, F.d, by rw [List.length_append, List.length_singleton]; omega, F.nz, F.dz, fun x hx => by
  rcases List.mem_append.1 hx with hx | hx
  · exact F.mz x hx
  · rw [List.mem_singleton.1 hx]; exact hm⟩
theorem Fine.addNd {nd : List Nd} {di : List Lk} {mv : List Mv} (F : Fine nd di mv) (x : Nd) (h : nd.length ≤ 10) (hx : x.f1.size ≤ 1048576) : Fine (nd ++ [x]) di mv := ⟨by rw [List.length_append, List.length_singleton]; omega, F.d, F.m, fun y hy => by
  rcases List.mem_append.1 hy with hy | hy
  · exact F.nz y hy
  · rw [List.mem_singleton.1 hy]; exact hx, F.dz, F.mz⟩
theorem Fine.setNd {nd : List Nd} {di : List Lk} {mv : List Mv} (F : Fine nd di mv) (i : Nat) (x : Nd) (hx : x.f1.size ≤ 1048576) : Fine (nd.set i x) di mv := ⟨by rw [List.length_set]; exact F.n, F.d, F.m, fun y hy => by
  rcases List.mem_or_eq_of_mem_set hy with hy | rfl
  · exact F.nz y hy
  · exact hx, F.dz, F.mz⟩
theorem usedR_pos : ∀ nd : List Nd, 0 ≤ usedR nd
  | [] => by simp [usedR]
  | x :: r => by have := usedR_pos r; simp only [usedR]; omega
theorem used_mem : ∀ {nd : List Nd} {x : Nd}, x ∈ nd → (x.f1.size : Int) ≤ usedR nd
  | y :: r, x, h => by
    have p := usedR_pos r
    simp only [usedR]
    rcases List.mem_cons.1 h with rfl | h
    · omega
    · have := used_mem h; omega
theorem appM_dz {l l' : List Lk} {m : Mv} (h : appM l m = some l') (hl : ∀ x ∈ l, x.f0.size ≤ 1048576) (hm : m.f1.size ≤ 1048576 ∧ m.f2.size ≤ 1048576) : ∀ x ∈ l', x.f0.size ≤ 1048576 := by
  unfold appM at h
  split at h
  · split at h
    · split at h
      · cases h; intro x hx
        rcases (insR_mem _ _ _).1 hx with rfl | hx
        · exact hm.1
        · exact hl x (delM_mem _ _ _ hx)
      · cases h
    · split at h
      · split at h
        · split at h
          · cases h; intro x hx
            rcases (insR_mem _ _ _).1 hx with rfl | hx
            · exact hm.2
            · exact hl x (delM_mem _ _ _ (delM_mem _ _ _ hx))
          · cases h
        · cases h
      · split at h
        · split at h
          · cases h; intro x hx; exact hl x (delM_mem _ _ _ hx)
          · cases h
        · cases h
  · cases h
theorem movM_dz : ∀ (ms : List Mv) {l l' : List Lk}, movM l ms = some l' → (∀ x ∈ l, x.f0.size ≤ 1048576) → (∀ m ∈ ms, m.f1.size ≤ 1048576 ∧ m.f2.size ≤ 1048576) → ∀ x ∈ l', x.f0.size ≤ 1048576
  | [], l, l', h, hl, _ => by simp only [movM, Option.some.injEq] at h; subst h; exact hl
  | m :: ms, l, l', h, hl, hm => by
    simp only [movM] at h
    cases hq : appM l m with
    | none => rw [hq] at h; simp at h
    | some q => rw [hq] at h; exact movM_dz ms (by simpa using h) (appM_dz hq hl (hm m List.mem_cons_self)) (fun y hy => hm y (List.mem_cons_of_mem _ hy))

theorem iCopy_f (ro nx : Int) {nd : List Nd} {di : List Lk} {mv : List Mv} (F : Fine nd di mv) : impl_copyDisk.f ro nx nd di mv = some (ro, nx, nd, di, mv) := by
  have h0 := F.n
  have h1 := F.d
  have h2 := F.m
  unfold impl_copyDisk.f impl_Inode_124.f impl_Link_125.f impl_Move.f
  rw [if_pos (by omega), if_pos (by omega), if_pos (by omega)]; rfl

theorem markDisk_b (a b : Int) (nd : List Nd) (di : List Lk) (mv : List Mv) (h0 : nd.length ≤ 1048600) (h1 : di.length ≤ 1048600) (h2 : mv.length ≤ 1048600) (k : Nat) (hk : 2097300 < k) : ∃ n nd' di' mv', laws_markDisk.f k a b nd di mv 1 = some (n, nd', di', mv') ∧ (0 < n ∧ n ≤ 549755813888) ∧ ∀ q, 2097300 < q → laws_heldDisk.f q a b nd' di' mv' 1 = some n := by
  unfold laws_markDisk.f
  rw [laws_markInodeS_f nd 1 (by omega) (by omega) k (by omega)]; simp only [Option.bind_some]
  rw [laws_markLinkS_f di _ (by omega) (by omega) k (by omega)]; simp only [Option.bind_some]
  rw [laws_markMoveS_f mv _ (by omega) (by omega) k (by omega)]; simp only [Option.bind_some]
  refine ⟨_, _, _, _, rfl, ⟨by omega, by omega⟩, fun q hq => ?_⟩
  unfold laws_heldDisk.f
  rw [laws_heldInodeS_f _ 1 (by omega) (by omega) q (by omega)]; simp only [Option.bind_some]
  rw [if_neg (by omega), laws_heldLinkS_f _ _ (by omega) (by omega) q (by omega)]; simp only [Option.bind_some]
  rw [if_neg (by omega), laws_heldMoveS_f _ _ (by omega) (by omega) q (by omega)]; simp only [Option.bind_some]
  rw [if_neg (by omega)]

theorem sNamed_f (ro nx : Int) {nd : List Nd} {di : List Lk} {mv : List Mv} {D : List Lk} (s : ByteArray) (hz : s.size ≤ 1048576) (hm : movM di mv = some D) (h0 : nd.length ≤ 10) (h1 : di.length ≤ 10) (h2 : mv.length ≤ 20) (hD : D.length ≤ 30) (hs : ∀ m ∈ mv, m.f1.size ≤ 1048576 ∧ m.f2.size ≤ 1048576) (k : Nat) (hk : 1048800 < k) : spec_l4Named.f k ro nx nd di mv s = some (namedM D nd s) := by
  unfold spec_l4Named.f namedM
  rw [l4Name_f s (by omega) k (by omega)]
  simp only [Option.bind_some]
  by_cases h : nameM s = true
  · rw [if_pos h, if_pos h, sFind_f ro nx s hm h0 h1 h2 hD hs k hk]
    simp only [Option.bind_some]
    split <;> rfl
  · rw [if_neg h, if_neg h]

theorem used_run (nd : List Nd) (h0 : nd.length ≤ 2097152) (h1 : ∀ x ∈ nd, x.f1.size ≤ 2097152) : ∀ (b a : List Nd) (k : Nat), a ++ b = nd → b.length < k → impl_used.l0 k (usedR a) nd (nd.length : Int) (a.length : Int) = some (usedR nd)
  | [], a, k, e, hk => by
    obtain ⟨q, rfl⟩ : ∃ m, k = m + 1 := ⟨k - 1, by omega⟩
    have ha : a = nd := by simpa using e
    subst ha
    simp only [impl_used.l0]; rw [if_neg (by omega)]
  | x :: b, a, k, e, hk => by
    simp only [List.length_cons] at hk
    have hlen := congrArg List.length e
    rw [List.length_append, List.length_cons] at hlen
    obtain ⟨q, rfl⟩ : ∃ m, k = m + 1 := ⟨k - 1, by omega⟩
    have hrd : rd_T130 nd (a.length : Int) = x := by rw [← e]; exact rdA130 a x b
    have hx := h1 x (by rw [← e]; simp)
    have hu := usedR_le a (fun y hy => h1 y (by rw [← e]; exact List.mem_append.2 (.inl hy)))
    have hsum : ∀ (a : List Nd), usedR (a ++ [x]) = usedR a + (x.f1.size : Int) := by
      intro a
      induction a with
      | nil => simp [usedR]
      | cons y r ih => rw [List.cons_append, usedR, usedR, ih, Int.add_assoc]
    have ih := used_run nd h0 h1 b (a ++ [x]) q (by rw [List.append_assoc]; exact e) (by omega)
    rw [show (((a ++ [x]).length : Nat) : Int) = (a.length : Int) + 1 by simp, hsum] at ih
    simp only [impl_used.l0]
    rw [if_pos (by omega), if_pos (by omega), if_pos (by omega), hrd, w64 (n := usedR a + (x.f1.size : Int)) (by omega) (by omega), w64 (n := (a.length : Int) + 1) (by omega) (by omega), ih]

theorem sMoved_f (ro nx : Int) {nd : List Nd} {di : List Lk} {mv : List Mv} (F : Fine nd di mv) (m : Mv) (c : Int) (k : Nat) (hk : 0 < k) : spec_l4Moved.f k ro nx nd di mv m.f0 m.f1 m.f2 m.f3 c = some (if c = 0 then (if (mv.length : Int) ≥ 20 then (ro, nx, nd, di, mv, 4) else (ro, nx, nd, di, mv ++ [m], 0)) else (ro, nx, nd, di, mv, c)) := by
  obtain ⟨q, rfl⟩ : ∃ m, k = m + 1 := ⟨k - 1, by omega⟩
  have h2 := F.m
  have j0 : ∀ b, spec_l4Moved.j0 (q + 1) c b ro nx nd di mv m.f0 m.f1 m.f2 m.f3 = if b = true then some (ro, nx, nd, di, mv, 4) else (if c = 0 then some (ro, nx, nd, di, mv ++ [m], c) else some (ro, nx, nd, di, mv, c)) := by
    intro b
    simp only [spec_l4Moved.j0]
    rw [sCopy_f ro nx F]
    simp only [Option.bind_some]
    rw [if_neg (show ¬ (4 = 0) by decide), if_pos (show mv.length < 2932031007402 by omega)]
  unfold spec_l4Moved.f
  rw [j0, j0]
  by_cases c0 : c = 0
  · rw [if_pos c0, if_pos c0, if_pos c0]
    by_cases c1 : (mv.length : Int) ≥ 20
    · rw [if_pos (decide_eq_true c1), if_pos c1]
    · rw [if_neg (by rw [decide_eq_true_eq]; exact c1), if_neg c1, c0]
  · rw [if_neg c0, if_neg c0, if_neg c0, if_neg (by decide)]
theorem iMoved_f (ro nx : Int) {nd : List Nd} {di : List Lk} {mv : List Mv} {D : List Lk} (F : Fine nd di mv) (m : Mv) (hm : movM di mv = some D) (hsr : Srt di) (hsD : Srt D) (h1 : di.length ≤ 10) (h2 : mv.length ≤ 20) (hD : D.length ≤ 30) (k : Nat) (hk : 1048800 < k) : impl_moved.f k ro nx nd di mv m.f0 m.f1 m.f2 m.f3 = some (if findM D nd m.f1 < 0 then (ro, nx, nd, di, mv, 2) else (if (mv.length : Int) ≥ 20 then (ro, nx, nd, di, mv, 4) else (ro, nx, nd, di, mv ++ [m], 0))) := by
  unfold impl_moved.f
  rw [iCopy_f ro nx F]
  simp only [Option.bind_some]
  rw [iFind_f ro nx m.f1 hm hsr hsD h1 h2 hD F.mz k hk]
  simp only [Option.bind_some]
  by_cases c0 : findM D nd m.f1 < 0
  · rw [if_pos c0, if_pos c0]
  · rw [if_neg c0, if_neg c0]
    by_cases c1 : (mv.length : Int) = 20
    · rw [if_pos c1, if_pos (by omega)]
    · rw [if_neg c1, if_pos (show mv.length < 2932031007402 by omega), if_neg (show ¬ ((mv.length : Int) ≥ 20) by omega)]
theorem moved_small (ro nx : Int) {nd : List Nd} {di : List Lk} {mv : List Mv} (F : Fine nd di mv) (m : Mv) (h2 : mv.length ≤ 20) (hm : m.f1.size ≤ 1048576 ∧ m.f2.size ≤ 1048576) : Small (ro, nx, nd, di, mv ++ [m], 0) := ⟨(F.small ro nx 0).1, (F.small ro nx 0).2.1, by show (mv ++ _).length ≤ _; rw [List.length_append, List.length_singleton]; omega, fun _ => F.addMv m h2 hm⟩

theorem Make_both (ro nx : Int) {nd : List Nd} {di : List Lk} {mv : List Mv} (F : Fine nd di mv) (s : ByteArray) (hz : s.size ≤ 1048576) : ∃ r : Rd, Small r ∧ (∀ k, 2097600 < k → spec_Make.f k ro nx nd di mv s = some r) ∧ (∀ k, 2097600 < k → impl_Make.f k ro nx nd di mv s = some r) := by
  by_cases h : okM ro nx nd di mv = true
  · obtain ⟨D, hm, hs, hD, hl, h2, h0, h1⟩ := ok_mov h
    obtain ⟨_, _, n0, n1, _⟩ := okFacts h
    have full : ∀ k b, 0 < k → spec_Make.j0 k s b ro nx nd di mv = if b = true then some (ro, nx, nd, di, mv, 4) else some (ro, nx + 1, nd ++ [⟨nx, ⟨#[]⟩, 0⟩], di, mv ++ [⟨1, s, ⟨#[]⟩, nx⟩], 0) := by
      intro k b hk
      obtain ⟨q, rfl⟩ : ∃ m, k = m + 1 := ⟨k - 1, by omega⟩
      simp only [spec_Make.j0]
      rw [sCopy_f ro nx F]
      simp only [Option.bind_some]
      rw [if_pos (show nd.length < 4398046511104 by omega), if_pos (show mv.length < 2932031007402 by omega), w64 (n := nx + 1) (by omega) (by omega)]
    have S : ∀ k, 2097600 < k → spec_Make.f k ro nx nd di mv s = if nameM s = true then (if findM D nd s ≥ 0 then some (ro, nx, nd, di, mv, 3) else (if (nd.length : Int) ≥ 10 then some (ro, nx, nd, di, mv, 4) else (if (mv.length : Int) ≥ 20 then some (ro, nx, nd, di, mv, 4) else (if nx ≥ 1000000 then some (ro, nx, nd, di, mv, 4) else some (ro, nx + 1, nd ++ [⟨nx, ⟨#[]⟩, 0⟩], di, mv ++ [⟨1, s, ⟨#[]⟩, nx⟩], 0))))) else some (ro, nx, nd, di, mv, 1) := by
      intro k hk
      unfold spec_Make.f
      rw [sOk ro nx F k (by omega)]
      simp only [Option.bind_some]
      rw [if_pos h, l4Name_f s (by omega) k (by omega)]
      simp only [Option.bind_some]
      rw [sFind_f ro nx s hm h0 h1 h2 (by omega) F.mz k (by omega), sCopy_f ro nx F]
      simp only [Option.bind_some]
      rw [full k _ (by omega), full k _ (by omega)]
      simp only [decide_eq_true_eq, if_true]
    have I : ∀ k, 2097600 < k → impl_Make.f k ro nx nd di mv s = if nameM s = true then (if findM D nd s ≥ 0 then some (ro, nx, nd, di, mv, 3) else (if (nd.length : Int) = 10 then some (ro, nx, nd, di, mv, 4) else (if (mv.length : Int) = 20 then some (ro, nx, nd, di, mv, 4) else (if nx = 1000000 then some (ro, nx, nd, di, mv, 4) else some (ro, nx + 1, nd ++ [⟨nx, ⟨#[]⟩, 0⟩], di, mv ++ [⟨1, s, ⟨#[]⟩, nx⟩], 0))))) else some (ro, nx, nd, di, mv, 1) := by
      intro k hk
      unfold impl_Make.f
      rw [iOk ro nx F k (by omega)]
      simp only [Option.bind_some]
      rw [if_pos h, iCopy_f ro nx F]
      simp only [Option.bind_some]
      rw [iFind_f ro nx s hm hs hD h1 h2 (by omega) F.mz k (by omega), nameOk_f s (by omega) k (by omega)]
      simp only [Option.bind_some]
      rw [if_pos (show nd.length < 4398046511104 by omega), if_pos (show mv.length < 2932031007402 by omega), w64 (n := nx + 1) (by omega) (by omega)]
    have fin : ∀ r : Rd, Small r → (∀ k, 2097600 < k → spec_Make.f k ro nx nd di mv s = some r) → (∀ k, 2097600 < k → impl_Make.f k ro nx nd di mv s = some r) → ∃ r : Rd, Small r ∧ (∀ k, 2097600 < k → spec_Make.f k ro nx nd di mv s = some r) ∧ (∀ k, 2097600 < k → impl_Make.f k ro nx nd di mv s = some r) := fun r a b c => ⟨r, a, b, c⟩
    by_cases c1 : nameM s = true
    · by_cases c2 : findM D nd s ≥ 0
      · exact fin (ro, nx, nd, di, mv, 3) (F.small _ _ _) (fun k hk => by rw [S k hk, if_pos c1, if_pos c2]) (fun k hk => by rw [I k hk, if_pos c1, if_pos c2])
      · by_cases c3 : (nd.length : Int) = 10
        · exact fin (ro, nx, nd, di, mv, 4) (F.small _ _ _) (fun k hk => by rw [S k hk, if_pos c1, if_neg c2, if_pos (by omega)]) (fun k hk => by rw [I k hk, if_pos c1, if_neg c2, if_pos c3])
        · by_cases c4 : (mv.length : Int) = 20
          · exact fin (ro, nx, nd, di, mv, 4) (F.small _ _ _) (fun k hk => by rw [S k hk, if_pos c1, if_neg c2, if_neg (by omega), if_pos (by omega)]) (fun k hk => by rw [I k hk, if_pos c1, if_neg c2, if_neg c3, if_pos c4])
          · by_cases c5 : nx = 1000000
            · exact fin (ro, nx, nd, di, mv, 4) (F.small _ _ _) (fun k hk => by rw [S k hk, if_pos c1, if_neg c2, if_neg (by omega), if_neg (by omega), if_pos (by omega)]) (fun k hk => by rw [I k hk, if_pos c1, if_neg c2, if_neg c3, if_neg c4, if_pos c5])
            · exact fin (ro, nx + 1, nd ++ [⟨nx, ⟨#[]⟩, 0⟩], di, mv ++ [⟨1, s, ⟨#[]⟩, nx⟩], 0) ⟨by show (nd ++ _).length ≤ _; rw [List.length_append, List.length_singleton]; omega, (F.small ro nx 0).2.1, by show (mv ++ _).length ≤ _; rw [List.length_append, List.length_singleton]; omega, fun _ => (F.addNd _ (by omega) (by show (0 : Nat) ≤ _; omega)).addMv _ (by omega) ⟨hz, by show (0 : Nat) ≤ _; omega⟩⟩ (fun k hk => by rw [S k hk, if_pos c1, if_neg c2, if_neg (by omega), if_neg (by omega), if_neg (by omega)]) (fun k hk => by rw [I k hk, if_pos c1, if_neg c2, if_neg c3, if_neg c4, if_neg c5])
    · exact fin (ro, nx, nd, di, mv, 1) (F.small _ _ _) (fun k hk => by rw [S k hk, if_neg c1]) (fun k hk => by rw [I k hk, if_neg c1])
  · refine ⟨(0, 0, [], [], [], 1), ⟨by simp, by simp, by simp, fun c => absurd c (by decide)⟩, fun k hk => ?_, fun k hk => ?_⟩
    · unfold spec_Make.f
      rw [sOk ro nx F k (by omega)]
      simp only [Option.bind_some]
      rw [if_neg h]
    · unfold impl_Make.f
      rw [iOk ro nx F k (by omega)]
      simp only [Option.bind_some]
      rw [if_neg h]

theorem Add_both (ro nx : Int) {nd : List Nd} {di : List Lk} {mv : List Mv} (F : Fine nd di mv) (s : ByteArray) (hz : s.size ≤ 1048576) (t : ByteArray) (ht : t.size ≤ 1048576) : ∃ r : Rd, Small r ∧ (∀ k, 2097600 < k → spec_Add.f k ro nx nd di mv s t = some r) ∧ (∀ k, 2097600 < k → impl_Add.f k ro nx nd di mv s t = some r) := by
  by_cases h : okM ro nx nd di mv = true
  · obtain ⟨D, hm, hs, hD, hl, h2, h0, h1⟩ := ok_mov h
    obtain ⟨u0, u1, n0, n1, _, _, _, uu⟩ := okFacts h
    have ur := usedR_le nd (fun x hx => by have := F.nz x hx; omega)
    have fnd : ∀ k, 2097000 < k → spec_l4Find.f k ro nx nd di mv s = some (findM D nd s) := fun k hk => sFind_f ro nx s hm h0 h1 h2 (by omega) F.mz k (by omega)
    have j1 : ∀ k c, 2097500 < k → spec_Add.j1 k s t c ro nx nd di mv = if c = 0 then (if 0 ≤ findM D nd s then (if findM D nd s < (nd.length : Int) then (if ((rd_T130 nd (findM D nd s)).f1).size + t.size ≤ 9223372036854775807 then some (ro, nx, nd.set (findM D nd s).toNat ⟨(rd_T130 nd (findM D nd s)).f0, (rd_T130 nd (findM D nd s)).f1 ++ t, (rd_T130 nd (findM D nd s)).f2⟩, di, mv, c) else none) else none) else none) else some (ro, nx, nd, di, mv, c) := by
      intro k c hk
      obtain ⟨q, rfl⟩ : ∃ m, k = m + 1 := ⟨k - 1, by omega⟩
      simp only [spec_Add.j1]
      rw [sCopy_f ro nx F]
      simp only [Option.bind_some]
      rw [fnd q (by omega)]
      simp only [Option.bind_some]
    have j0 : ∀ k c b, 2097600 < k → spec_Add.j0 k s t c b ro nx nd di mv = if b = true then some (ro, nx, nd, di, mv, 4) else spec_Add.j1 (k - 1) s t c ro nx nd di mv := by
      intro k c b hk
      obtain ⟨q, rfl⟩ : ∃ m, k = m + 1 := ⟨k - 1, by omega⟩
      simp only [spec_Add.j0]
      rw [j1 q 4 (by omega), if_neg (show ¬ ((4 : Int) = 0) by decide)]; rfl
    have S : ∀ k, 2097600 < k → spec_Add.f k ro nx nd di mv s t = if namedM D nd s = 0 then (if (t.size : Int) > ro - usedR nd then some (ro, nx, nd, di, mv, 4) else spec_Add.j1 (k - 1) s t (namedM D nd s) ro nx nd di mv) else spec_Add.j1 (k - 1) s t (namedM D nd s) ro nx nd di mv := by
      intro k hk
      unfold spec_Add.f
      rw [sOk ro nx F k (by omega)]
      simp only [Option.bind_some]
      rw [if_pos h, sNamed_f ro nx s hz hm h0 h1 h2 (by omega) F.mz k (by omega)]
      simp only [Option.bind_some]
      rw [l4Bytes_f ro nx nd di mv (by omega) (fun x hx => by have := F.nz x hx; omega) k (by omega)]
      simp only [Option.bind_some]
      rw [w64 (n := ro - usedR nd) (by omega) (by omega), j0 k _ _ hk, j0 k _ _ hk, if_neg (show ¬ (false = true) by decide)]
      simp only [decide_eq_true_eq]
    have I : ∀ k, 2097600 < k → impl_Add.f k ro nx nd di mv s t = if nameM s = true then (if findM D nd s < 0 then some (ro, nx, nd, di, mv, 2) else (if usedR nd + (t.size : Int) > ro then some (ro, nx, nd, di, mv, 4) else (if 0 ≤ findM D nd s then (if findM D nd s < (nd.length : Int) then (if ((rd_T130 nd (findM D nd s)).f1).size + t.size ≤ 9223372036854775807 then some (ro, nx, nd.set (findM D nd s).toNat ⟨(rd_T130 nd (findM D nd s)).f0, (rd_T130 nd (findM D nd s)).f1 ++ t, (rd_T130 nd (findM D nd s)).f2⟩, di, mv, 0) else none) else none) else none))) else some (ro, nx, nd, di, mv, 1) := by
      intro k hk
      unfold impl_Add.f
      rw [iOk ro nx F k (by omega)]
      simp only [Option.bind_some]
      rw [if_pos h, iCopy_f ro nx F]
      simp only [Option.bind_some]
      rw [iFind_f ro nx s hm hs hD h1 h2 (by omega) F.mz k (by omega), nameOk_f s (by omega) k (by omega)]
      simp only [Option.bind_some]
      rw [show impl_used.f k ro nx nd di mv = some (usedR nd) from used_run nd (by omega) (fun x hx => by have := F.nz x hx; omega) nd [] k rfl (by omega)]
      simp only [Option.bind_some]
      rw [w64 (n := usedR nd + (t.size : Int)) (by omega) (by omega)]
    have fin : ∀ r : Rd, Small r → (∀ k, 2097600 < k → spec_Add.f k ro nx nd di mv s t = some r) → (∀ k, 2097600 < k → impl_Add.f k ro nx nd di mv s t = some r) → ∃ r : Rd, Small r ∧ (∀ k, 2097600 < k → spec_Add.f k ro nx nd di mv s t = some r) ∧ (∀ k, 2097600 < k → impl_Add.f k ro nx nd di mv s t = some r) := fun r a b c => ⟨r, a, b, c⟩
    by_cases c1 : nameM s = true
    · rcases findM_range D nd s with c | ⟨d1, d2⟩
      · have hn : namedM D nd s = 2 := by unfold namedM; rw [if_pos c1, if_pos (by omega)]
        exact fin (ro, nx, nd, di, mv, 2) (F.small _ _ _) (fun k hk => by rw [S k hk, hn, if_neg (by decide), j1 _ _ (by omega), if_neg (by decide)]) (fun k hk => by rw [I k hk, if_pos c1, if_pos (by omega)])
      · have hn : namedM D nd s = 0 := by unfold namedM; rw [if_pos c1, if_neg (by omega)]
        by_cases c2 : usedR nd + (t.size : Int) > ro
        · exact fin (ro, nx, nd, di, mv, 4) (F.small _ _ _) (fun k hk => by rw [S k hk, hn, if_pos rfl, if_pos (by omega)]) (fun k hk => by rw [I k hk, if_pos c1, if_neg (by omega), if_pos c2])
        · have hm2 : rd_T130 nd (findM D nd s) ∈ nd := by
            unfold rd_T130
            rw [List.getD_eq_getElem?_getD, List.getElem?_eq_getElem (by omega)]
            exact List.getElem_mem _
          have hz2 := F.nz _ hm2
          exact fin (ro, nx, nd.set (findM D nd s).toNat ⟨(rd_T130 nd (findM D nd s)).f0, (rd_T130 nd (findM D nd s)).f1 ++ t, (rd_T130 nd (findM D nd s)).f2⟩, di, mv, 0) ⟨by show (List.set _ _ _).length ≤ _; rw [List.length_set]; omega, (F.small ro nx 0).2.1, (F.small ro nx 0).2.2.1, fun _ => F.setNd _ _ (by show ByteArray.size (_ ++ _) ≤ _; have := used_mem hm2; rw [ByteArray.size_append]; omega)⟩ (fun k hk => by rw [S k hk, hn, if_pos rfl, if_neg (by omega), j1 _ _ (by omega), if_pos rfl, if_pos d1, if_pos d2, if_pos (by omega)]) (fun k hk => by rw [I k hk, if_pos c1, if_neg (by omega), if_neg c2, if_pos d1, if_pos d2, if_pos (by omega)])
    · have hn : namedM D nd s = 1 := by unfold namedM; rw [if_neg c1]
      exact fin (ro, nx, nd, di, mv, 1) (F.small _ _ _) (fun k hk => by rw [S k hk, hn, if_neg (by decide), j1 _ _ (by omega), if_neg (by decide)]) (fun k hk => by rw [I k hk, if_neg c1])
  · refine ⟨(0, 0, [], [], [], 1), ⟨by simp, by simp, by simp, fun c => absurd c (by decide)⟩, fun k hk => ?_, fun k hk => ?_⟩
    · unfold spec_Add.f
      rw [sOk ro nx F k (by omega)]
      simp only [Option.bind_some]
      rw [if_neg h]
    · unfold impl_Add.f
      rw [iOk ro nx F k (by omega)]
      simp only [Option.bind_some]
      rw [if_neg h]

theorem Sync_both (ro nx : Int) {nd : List Nd} {di : List Lk} {mv : List Mv} (F : Fine nd di mv) (s : ByteArray) (hz : s.size ≤ 1048576) : ∃ r : Rd, Small r ∧ (∀ k, 2097600 < k → spec_Sync.f k ro nx nd di mv s = some r) ∧ (∀ k, 2097600 < k → impl_Sync.f k ro nx nd di mv s = some r) := by
  by_cases h : okM ro nx nd di mv = true
  · obtain ⟨D, hm, hs, hD, hl, h2, h0, h1⟩ := ok_mov h
    have fnd : ∀ k, 2097600 < k → spec_l4Find.f k ro nx nd di mv s = some (findM D nd s) := fun k hk => sFind_f ro nx s hm h0 h1 h2 (by omega) F.mz k (by omega)
    have S : ∀ k, 2097600 < k → spec_Sync.f k ro nx nd di mv s = if namedM D nd s = 0 then (if 0 ≤ findM D nd s then (if findM D nd s < (nd.length : Int) then some (ro, nx, nd.set (findM D nd s).toNat ⟨(rd_T130 nd (findM D nd s)).f0, (rd_T130 nd (findM D nd s)).f1, (((rd_T130 nd (findM D nd s)).f1).size : Int)⟩, di, mv, namedM D nd s) else none) else none) else some (ro, nx, nd, di, mv, namedM D nd s) := by
      intro k hk
      unfold spec_Sync.f
      rw [sOk ro nx F k (by omega)]
      simp only [Option.bind_some]
      rw [if_pos h, sNamed_f ro nx s hz hm h0 h1 h2 (by omega) F.mz k (by omega)]
      simp only [Option.bind_some]
      rw [sCopy_f ro nx F]
      simp only [Option.bind_some]
      rw [fnd k hk]
      simp only [Option.bind_some]
    have I : ∀ k, 2097600 < k → impl_Sync.f k ro nx nd di mv s = if nameM s = true then (if findM D nd s < 0 then some (ro, nx, nd, di, mv, 2) else (if 0 ≤ findM D nd s then (if findM D nd s < (nd.length : Int) then some (ro, nx, nd.set (findM D nd s).toNat ⟨(rd_T130 nd (findM D nd s)).f0, (rd_T130 nd (findM D nd s)).f1, (((rd_T130 nd (findM D nd s)).f1).size : Int)⟩, di, mv, 0) else none) else none)) else some (ro, nx, nd, di, mv, 1) := by
      intro k hk
      unfold impl_Sync.f
      rw [iOk ro nx F k (by omega)]
      simp only [Option.bind_some]
      rw [if_pos h, iCopy_f ro nx F]
      simp only [Option.bind_some]
      rw [iFind_f ro nx s hm hs hD h1 h2 (by omega) F.mz k (by omega), nameOk_f s (by omega) k (by omega)]
      simp only [Option.bind_some]
    by_cases c1 : nameM s = true
    · rcases findM_range D nd s with c | ⟨d1, d2⟩
      · have hn : namedM D nd s = 2 := by unfold namedM; rw [if_pos c1, if_pos (by omega)]
        refine ⟨(ro, nx, nd, di, mv, 2), F.small _ _ _, fun k hk => ?_, fun k hk => ?_⟩
        · rw [S k hk, hn, if_neg (by decide)]
        · rw [I k hk, if_pos c1, if_pos (by omega)]
      · have hn : namedM D nd s = 0 := by unfold namedM; rw [if_pos c1, if_neg (by omega)]
        refine ⟨(ro, nx, nd.set (findM D nd s).toNat ⟨(rd_T130 nd (findM D nd s)).f0, (rd_T130 nd (findM D nd s)).f1, (((rd_T130 nd (findM D nd s)).f1).size : Int)⟩, di, mv, 0), ⟨by show (List.set _ _ _).length ≤ _; rw [List.length_set]; have := F.n; omega, (F.small ro nx 0).2.1, (F.small ro nx 0).2.2.1, fun _ => F.setNd _ _ (by refine F.nz (rd_T130 nd (findM D nd s)) ?_; unfold rd_T130; rw [List.getD_eq_getElem?_getD, List.getElem?_eq_getElem (by omega)]; exact List.getElem_mem _)⟩, fun k hk => ?_, fun k hk => ?_⟩
        · rw [S k hk, hn, if_pos rfl, if_pos d1, if_pos d2]
        · rw [I k hk, if_pos c1, if_neg (by omega), if_pos d1, if_pos d2]
    · have hn : namedM D nd s = 1 := by unfold namedM; rw [if_neg c1]
      refine ⟨(ro, nx, nd, di, mv, 1), F.small _ _ _, fun k hk => ?_, fun k hk => ?_⟩
      · rw [S k hk, hn, if_neg (by decide)]
      · rw [I k hk, if_neg c1]
  · refine ⟨(0, 0, [], [], [], 1), ⟨by simp, by simp, by simp, fun c => absurd c (by decide)⟩, fun k hk => ?_, fun k hk => ?_⟩
    · unfold spec_Sync.f
      rw [sOk ro nx F k (by omega)]
      simp only [Option.bind_some]
      rw [if_neg h]
    · unfold impl_Sync.f
      rw [iOk ro nx F k (by omega)]
      simp only [Option.bind_some]
      rw [if_neg h]

theorem Rename_both (ro nx : Int) {nd : List Nd} {di : List Lk} {mv : List Mv} (F : Fine nd di mv) (s : ByteArray) (hz : s.size ≤ 1048576) (t : ByteArray) (ht : t.size ≤ 1048576) : ∃ r : Rd, Small r ∧ (∀ k, 2097600 < k → spec_Rename.f k ro nx nd di mv s t = some r) ∧ (∀ k, 2097600 < k → impl_Rename.f k ro nx nd di mv s t = some r) := by
  by_cases h : okM ro nx nd di mv = true
  · obtain ⟨D, hm, hs, hD, hl, h2, h0, h1⟩ := ok_mov h
    have S : ∀ k, 2097600 < k → spec_Rename.f k ro nx nd di mv s t = some (if nameM t = true ∧ s ≠ t then (if namedM D nd s = 0 then (if (mv.length : Int) ≥ 20 then (ro, nx, nd, di, mv, 4) else (ro, nx, nd, di, mv ++ [⟨2, s, t, 0⟩], 0)) else (ro, nx, nd, di, mv, namedM D nd s)) else (ro, nx, nd, di, mv, 1)) := by
      intro k hk
      unfold spec_Rename.f
      rw [sOk ro nx F k (by omega)]
      simp only [Option.bind_some]
      rw [if_pos h, sNamed_f ro nx s hz hm h0 h1 h2 (by omega) F.mz k (by omega), l4Name_f t (by omega) k (by omega)]
      simp only [Option.bind_some, tl_iff]
      rw [sMoved_f ro nx F ⟨2, s, t, 0⟩ 1 k (by omega), sMoved_f ro nx F ⟨2, s, t, 0⟩ (namedM D nd s) k (by omega), if_neg (show ¬ ((1 : Int) = 0) by decide)]
      by_cases c1 : nameM t = true
      · rw [if_pos c1]
        by_cases c2 : s = t
        · rw [if_pos c2, if_neg (show ¬ (nameM t = true ∧ s ≠ t) from fun g => g.2 c2)]; rfl
        · rw [if_neg c2, if_pos (show nameM t = true ∧ s ≠ t from ⟨c1, c2⟩)]; rfl
      · rw [if_neg c1, if_neg (show ¬ (nameM t = true ∧ s ≠ t) from fun g => c1 g.1)]; rfl
    have I : ∀ k, 2097600 < k → impl_Rename.f k ro nx nd di mv s t = some (if nameM s = true ∧ nameM t = true ∧ s ≠ t then (if findM D nd s < 0 then (ro, nx, nd, di, mv, 2) else (if (mv.length : Int) ≥ 20 then (ro, nx, nd, di, mv, 4) else (ro, nx, nd, di, mv ++ [⟨2, s, t, 0⟩], 0))) else (ro, nx, nd, di, mv, 1)) := by
      intro k hk
      have j0 : ∀ b, impl_Rename.j0 k s t b ro nx nd di mv = if b = true then some (ro, nx, nd, di, mv, 1) else some (if findM D nd s < 0 then (ro, nx, nd, di, mv, 2) else (if (mv.length : Int) ≥ 20 then (ro, nx, nd, di, mv, 4) else (ro, nx, nd, di, mv ++ [⟨2, s, t, 0⟩], 0))) := by
        intro b
        obtain ⟨q, rfl⟩ : ∃ m, k = m + 1 := ⟨k - 1, by omega⟩
        simp only [impl_Rename.j0]
        rw [iCopy_f ro nx F, iMoved_f ro nx F ⟨2, s, t, 0⟩ hm hs hD h1 h2 (by omega) q (by omega)]; rfl
      unfold impl_Rename.f
      rw [iOk ro nx F k (by omega)]
      simp only [Option.bind_some]
      rw [if_pos h, nameOk_f s (by omega) k (by omega), nameOk_f t (by omega) k (by omega), j0, j0]
      simp only [Option.bind_some]
      by_cases c1 : nameM s = true
      · rw [if_pos c1]
        by_cases c2 : nameM t = true
        · rw [if_pos c2]
          by_cases c3 : s = t
          · rw [if_pos (beq_iff_eq.mpr (tl_iff.2 c3)), if_neg (show ¬ (nameM s = true ∧ nameM t = true ∧ s ≠ t) from fun g => g.2.2 c3)]
          · rw [if_neg (by rw [beq_iff_eq, tl_iff]; exact c3), if_pos (show nameM s = true ∧ nameM t = true ∧ s ≠ t from ⟨c1, c2, c3⟩)]
        · rw [if_neg c2, if_pos trivial, if_neg (show ¬ (nameM s = true ∧ nameM t = true ∧ s ≠ t) from fun g => c2 g.2.1)]
      · rw [if_neg c1, if_pos trivial, if_neg (show ¬ (nameM s = true ∧ nameM t = true ∧ s ≠ t) from fun g => c1 g.1)]
    have one : ∀ P : Prop, [Decidable P] → ¬ (nameM s = true ∧ nameM t = true ∧ s ≠ t) → ∃ r : Rd, Small r ∧ (∀ k, 2097600 < k → spec_Rename.f k ro nx nd di mv s t = some r) ∧ (∀ k, 2097600 < k → impl_Rename.f k ro nx nd di mv s t = some r) := by
      intro P _ hc
      refine ⟨(ro, nx, nd, di, mv, 1), F.small _ _ _, fun k hk => ?_, fun k hk => by rw [I k hk, if_neg hc]⟩
      rw [S k hk]
      by_cases c : nameM t = true ∧ s ≠ t
      · have hn : namedM D nd s = 1 := by unfold namedM; rw [if_neg (fun g => hc ⟨g, c⟩)]
        rw [if_pos c, hn, if_neg (by decide)]
      · rw [if_neg c]
    by_cases c1 : nameM s = true ∧ nameM t = true ∧ s ≠ t
    · by_cases c2 : findM D nd s < 0
      · have hn : namedM D nd s = 2 := by unfold namedM; rw [if_pos c1.1, if_pos c2]
        exact ⟨(ro, nx, nd, di, mv, 2), F.small _ _ _, fun k hk => by rw [S k hk, if_pos c1.2, hn, if_neg (by decide)], fun k hk => by rw [I k hk, if_pos c1, if_pos c2]⟩
      · have hn : namedM D nd s = 0 := by unfold namedM; rw [if_pos c1.1, if_neg c2]
        by_cases c3 : (mv.length : Int) ≥ 20
        · exact ⟨(ro, nx, nd, di, mv, 4), F.small _ _ _, fun k hk => by rw [S k hk, if_pos c1.2, hn, if_pos rfl, if_pos c3], fun k hk => by rw [I k hk, if_pos c1, if_neg c2, if_pos c3]⟩
        · exact ⟨(ro, nx, nd, di, mv ++ [⟨2, s, t, 0⟩], 0), moved_small ro nx F _ h2 ⟨hz, ht⟩, fun k hk => by rw [S k hk, if_pos c1.2, hn, if_pos rfl, if_neg c3], fun k hk => by rw [I k hk, if_pos c1, if_neg c2, if_neg c3]⟩
    · exact one True c1
  · refine ⟨(0, 0, [], [], [], 1), ⟨by simp, by simp, by simp, fun c => absurd c (by decide)⟩, fun k hk => ?_, fun k hk => ?_⟩
    · unfold spec_Rename.f
      rw [sOk ro nx F k (by omega)]
      simp only [Option.bind_some]
      rw [if_neg h]
    · unfold impl_Rename.f
      rw [iOk ro nx F k (by omega)]
      simp only [Option.bind_some]
      rw [if_neg h]

theorem Drop_both (ro nx : Int) {nd : List Nd} {di : List Lk} {mv : List Mv} (F : Fine nd di mv) (s : ByteArray) (hz : s.size ≤ 1048576) : ∃ r : Rd, Small r ∧ (∀ k, 2097600 < k → spec_Drop.f k ro nx nd di mv s = some r) ∧ (∀ k, 2097600 < k → impl_Drop.f k ro nx nd di mv s = some r) := by
  by_cases h : okM ro nx nd di mv = true
  · obtain ⟨D, hm, hs, hD, hl, h2, h0, h1⟩ := ok_mov h
    have S : ∀ k, 2097600 < k → spec_Drop.f k ro nx nd di mv s = some (if namedM D nd s = 0 then (if (mv.length : Int) ≥ 20 then (ro, nx, nd, di, mv, 4) else (ro, nx, nd, di, mv ++ [⟨3, s, ⟨#[]⟩, 0⟩], 0)) else (ro, nx, nd, di, mv, namedM D nd s)) := by
      intro k hk
      unfold spec_Drop.f
      rw [sOk ro nx F k (by omega)]
      simp only [Option.bind_some]
      rw [if_pos h, sNamed_f ro nx s hz hm h0 h1 h2 (by omega) F.mz k (by omega)]
      simp only [Option.bind_some]
      rw [sMoved_f ro nx F ⟨3, s, ⟨#[]⟩, 0⟩ _ k (by omega)]; rfl
    have I : ∀ k, 2097600 < k → impl_Drop.f k ro nx nd di mv s = some (if nameM s = true then (if findM D nd s < 0 then (ro, nx, nd, di, mv, 2) else (if (mv.length : Int) ≥ 20 then (ro, nx, nd, di, mv, 4) else (ro, nx, nd, di, mv ++ [⟨3, s, ⟨#[]⟩, 0⟩], 0))) else (ro, nx, nd, di, mv, 1)) := by
      intro k hk
      unfold impl_Drop.f
      rw [iOk ro nx F k (by omega)]
      simp only [Option.bind_some]
      rw [if_pos h, nameOk_f s (by omega) k (by omega), iCopy_f ro nx F]
      simp only [Option.bind_some]
      rw [iMoved_f ro nx F ⟨3, s, ⟨#[]⟩, 0⟩ hm hs hD h1 h2 (by omega) k (by omega)]
      by_cases c : nameM s = true
      · rw [if_pos c, if_pos c]; rfl
      · rw [if_neg c, if_neg c]
    by_cases c1 : nameM s = true
    · by_cases c2 : findM D nd s < 0
      · have hn : namedM D nd s = 2 := by unfold namedM; rw [if_pos c1, if_pos c2]
        exact ⟨(ro, nx, nd, di, mv, 2), F.small _ _ _, fun k hk => by rw [S k hk, hn, if_neg (by decide)], fun k hk => by rw [I k hk, if_pos c1, if_pos c2]⟩
      · have hn : namedM D nd s = 0 := by unfold namedM; rw [if_pos c1, if_neg c2]
        by_cases c3 : (mv.length : Int) ≥ 20
        · exact ⟨(ro, nx, nd, di, mv, 4), F.small _ _ _, fun k hk => by rw [S k hk, hn, if_pos rfl, if_pos c3], fun k hk => by rw [I k hk, if_pos c1, if_neg c2, if_pos c3]⟩
        · exact ⟨(ro, nx, nd, di, mv ++ [⟨3, s, ⟨#[]⟩, 0⟩], 0), moved_small ro nx F _ h2 ⟨hz, by show (0 : Nat) ≤ _; omega⟩, fun k hk => by rw [S k hk, hn, if_pos rfl, if_neg c3], fun k hk => by rw [I k hk, if_pos c1, if_neg c2, if_neg c3]⟩
    · have hn : namedM D nd s = 1 := by unfold namedM; rw [if_neg c1]
      exact ⟨(ro, nx, nd, di, mv, 1), F.small _ _ _, fun k hk => by rw [S k hk, hn, if_neg (by decide)], fun k hk => by rw [I k hk, if_neg c1]⟩
  · refine ⟨(0, 0, [], [], [], 1), ⟨by simp, by simp, by simp, fun c => absurd c (by decide)⟩, fun k hk => ?_, fun k hk => ?_⟩
    · unfold spec_Drop.f
      rw [sOk ro nx F k (by omega)]
      simp only [Option.bind_some]
      rw [if_neg h]
    · unfold impl_Drop.f
      rw [iOk ro nx F k (by omega)]
      simp only [Option.bind_some]
      rw [if_neg h]

theorem SyncDir_both (ro nx : Int) {nd : List Nd} {di : List Lk} {mv : List Mv} (F : Fine nd di mv) : ∃ r : Rd, Small r ∧ (∀ k, 2097600 < k → spec_SyncDir.f k ro nx nd di mv = some r) ∧ (∀ k, 2097600 < k → impl_SyncDir.f k ro nx nd di mv = some r) := by
  by_cases h : okM ro nx nd di mv = true
  · obtain ⟨D, hm, hs, hD, hl, h2, h0, h1⟩ := ok_mov h
    have hdel : (delS D nd).length ≤ nd.length := List.length_filter_le _ _
    refine ⟨(ro, nx, delS D nd, D, [], 0), ⟨by show (delS D nd).length ≤ _; omega, by show D.length ≤ _; omega, by show ([] : List Mv).length ≤ _; simp, fun _ => ⟨by show (delS D nd).length ≤ _; omega, by show D.length ≤ _; omega, by show ([] : List Mv).length ≤ _; simp, fun x hx => F.nz x ((List.mem_filter.1 hx).1), movM_dz mv hm F.dz F.mz, fun x hx => absurd hx (by simp)⟩⟩, fun k hk => ?_, fun k hk => ?_⟩
    · unfold spec_SyncDir.f
      rw [sOk ro nx F k (by omega)]
      simp only [Option.bind_some]
      rw [if_pos h, sNames_f ro nx nd hm h1 h2 F.mz k (by omega)]
      simp only [Option.bind_some]
      unfold spec_l4Settled.f
      rw [if_pos (by omega)]
      rfl
    · unfold impl_SyncDir.f
      rw [iOk ro nx F k (by omega)]
      simp only [Option.bind_some]
      rw [if_pos h, iCopy_f ro nx F]
      simp only [Option.bind_some]
      rw [iNames_f hm hs h1 h2 F.mz k (by omega)]
      simp only [Option.bind_some]
      rw [if_pos (by omega)]
  · refine ⟨(0, 0, [], [], [], 1), ⟨by simp, by simp, by simp, fun c => absurd c (by decide)⟩, fun k hk => ?_, fun k hk => ?_⟩
    · unfold spec_SyncDir.f
      rw [sOk ro nx F k (by omega)]
      simp only [Option.bind_some]
      rw [if_neg h]
    · unfold impl_SyncDir.f
      rw [iOk ro nx F k (by omega)]
      simp only [Option.bind_some]
      rw [if_neg h]

theorem stepBad {ro nx : Int} {nd : List Nd} {di : List Lk} {mv : List Mv} (F : Fine nd di mv) (h : ¬okM ro nx nd di mv = true) (kd : Int) (s tn da : ByteArray) : ∀ k, 2097600 < k → spec_DoStep.f k ro nx nd di mv kd s tn da = some (0, 0, [], [], [], 1) := by
  intro k hk
  unfold spec_DoStep.f
  rw [sOk ro nx F k (by omega)]
  simp only [Option.bind_some]
  rw [if_neg h]
theorem Make_bad {ro nx : Int} {nd : List Nd} {di : List Lk} {mv : List Mv} (F : Fine nd di mv) (h : ¬okM ro nx nd di mv = true) (s : ByteArray) : impl_Make.f 2097601 ro nx nd di mv s = some (0, 0, [], [], [], 1) := by
  unfold impl_Make.f; rw [iOk ro nx F _ (by omega)]; simp only [Option.bind_some]; rw [if_neg h]
theorem Add_bad {ro nx : Int} {nd : List Nd} {di : List Lk} {mv : List Mv} (F : Fine nd di mv) (h : ¬okM ro nx nd di mv = true) (s t : ByteArray) : impl_Add.f 2097601 ro nx nd di mv s t = some (0, 0, [], [], [], 1) := by
  unfold impl_Add.f; rw [iOk ro nx F _ (by omega)]; simp only [Option.bind_some]; rw [if_neg h]
theorem Sync_bad {ro nx : Int} {nd : List Nd} {di : List Lk} {mv : List Mv} (F : Fine nd di mv) (h : ¬okM ro nx nd di mv = true) (s : ByteArray) : impl_Sync.f 2097601 ro nx nd di mv s = some (0, 0, [], [], [], 1) := by
  unfold impl_Sync.f; rw [iOk ro nx F _ (by omega)]; simp only [Option.bind_some]; rw [if_neg h]
theorem Rename_bad {ro nx : Int} {nd : List Nd} {di : List Lk} {mv : List Mv} (F : Fine nd di mv) (h : ¬okM ro nx nd di mv = true) (s t : ByteArray) : impl_Rename.f 2097601 ro nx nd di mv s t = some (0, 0, [], [], [], 1) := by
  unfold impl_Rename.f; rw [iOk ro nx F _ (by omega)]; simp only [Option.bind_some]; rw [if_neg h]
theorem Drop_bad {ro nx : Int} {nd : List Nd} {di : List Lk} {mv : List Mv} (F : Fine nd di mv) (h : ¬okM ro nx nd di mv = true) (s : ByteArray) : impl_Drop.f 2097601 ro nx nd di mv s = some (0, 0, [], [], [], 1) := by
  unfold impl_Drop.f; rw [iOk ro nx F _ (by omega)]; simp only [Option.bind_some]; rw [if_neg h]
theorem SyncDir_bad {ro nx : Int} {nd : List Nd} {di : List Lk} {mv : List Mv} (F : Fine nd di mv) (h : ¬okM ro nx nd di mv = true) : impl_SyncDir.f 2097601 ro nx nd di mv = some (0, 0, [], [], [], 1) := by
  unfold impl_SyncDir.f; rw [iOk ro nx F _ (by omega)]; simp only [Option.bind_some]; rw [if_neg h]
theorem DoStep_both (ro nx : Int) {nd : List Nd} {di : List Lk} {mv : List Mv} (F : Fine nd di mv) (kd : Int) (s tn da : ByteArray) (hs : s.size ≤ 1048576) (ht : tn.size ≤ 1048576) (hd : da.size ≤ 1048576) : ∃ r : Rd, Small r ∧ (∀ k, 2097600 < k → spec_DoStep.f k ro nx nd di mv kd s tn da = some r) ∧ (∀ k, 2097600 < k → impl_DoStep.f k ro nx nd di mv kd s tn da = some r) := by
  by_cases h : okM ro nx nd di mv = true
  · have so := fun k hk => sOk ro nx F k hk
    have io := fun k hk => iOk ro nx F k hk
    have S : ∀ (r : Rd), Small r → ((∀ k, 2097600 < k → spec_DoStep.f k ro nx nd di mv kd s tn da = some r) ∧ (∀ k, 2097600 < k → impl_DoStep.f k ro nx nd di mv kd s tn da = some r)) → ∃ r : Rd, Small r ∧ (∀ k, 2097600 < k → spec_DoStep.f k ro nx nd di mv kd s tn da = some r) ∧ (∀ k, 2097600 < k → impl_DoStep.f k ro nx nd di mv kd s tn da = some r) := fun r a b => ⟨r, a, b.1, b.2⟩
    by_cases c1 : kd = 1
    · obtain ⟨r, a, e1, e2⟩ := Make_both ro nx F s hs
      exact S r a ⟨fun k hk => by unfold spec_DoStep.f; rw [so k (by omega)]; simp only [Option.bind_some]; rw [if_pos h, if_pos c1, e1 k hk]; rfl, fun k hk => by unfold impl_DoStep.f; rw [if_pos c1, e2 k hk]; rfl⟩
    by_cases c2 : kd = 2
    · obtain ⟨r, a, e1, e2⟩ := Add_both ro nx F s hs da hd
      exact S r a ⟨fun k hk => by unfold spec_DoStep.f; rw [so k (by omega)]; simp only [Option.bind_some]; rw [if_pos h, if_neg c1, if_pos c2, e1 k hk]; rfl, fun k hk => by unfold impl_DoStep.f; rw [if_neg c1, if_pos c2, e2 k hk]; rfl⟩
    by_cases c3 : kd = 3
    · obtain ⟨r, a, e1, e2⟩ := Sync_both ro nx F s hs
      exact S r a ⟨fun k hk => by unfold spec_DoStep.f; rw [so k (by omega)]; simp only [Option.bind_some]; rw [if_pos h, if_neg c1, if_neg c2, if_pos c3, e1 k hk]; rfl, fun k hk => by unfold impl_DoStep.f; rw [if_neg c1, if_neg c2, if_pos c3, e2 k hk]; rfl⟩
    by_cases c4 : kd = 4
    · obtain ⟨r, a, e1, e2⟩ := Rename_both ro nx F s hs tn ht
      exact S r a ⟨fun k hk => by unfold spec_DoStep.f; rw [so k (by omega)]; simp only [Option.bind_some]; rw [if_pos h, if_neg c1, if_neg c2, if_neg c3, if_pos c4, e1 k hk]; rfl, fun k hk => by unfold impl_DoStep.f; rw [if_neg c1, if_neg c2, if_neg c3, if_pos c4, e2 k hk]; rfl⟩
    by_cases c5 : kd = 5
    · obtain ⟨r, a, e1, e2⟩ := Drop_both ro nx F s hs
      exact S r a ⟨fun k hk => by unfold spec_DoStep.f; rw [so k (by omega)]; simp only [Option.bind_some]; rw [if_pos h, if_neg c1, if_neg c2, if_neg c3, if_neg c4, if_pos c5, e1 k hk]; rfl, fun k hk => by unfold impl_DoStep.f; rw [if_neg c1, if_neg c2, if_neg c3, if_neg c4, if_pos c5, e2 k hk]; rfl⟩
    by_cases c6 : kd = 6
    · obtain ⟨r, a, e1, e2⟩ := SyncDir_both ro nx F
      exact S r a ⟨fun k hk => by unfold spec_DoStep.f; rw [so k (by omega)]; simp only [Option.bind_some]; rw [if_pos h, if_neg c1, if_neg c2, if_neg c3, if_neg c4, if_neg c5, if_pos c6, e1 k hk]; rfl, fun k hk => by unfold impl_DoStep.f; rw [if_neg c1, if_neg c2, if_neg c3, if_neg c4, if_neg c5, if_pos c6, e2 k hk]; rfl⟩
    exact S (ro, nx, nd, di, mv, 1) (F.small ro nx 1) ⟨fun k hk => by unfold spec_DoStep.f; rw [so k (by omega)]; simp only [Option.bind_some]; rw [if_pos h, if_neg c1, if_neg c2, if_neg c3, if_neg c4, if_neg c5, if_neg c6, sCopy_f ro nx F]; rfl, fun k hk => by unfold impl_DoStep.f; rw [if_neg c1, if_neg c2, if_neg c3, if_neg c4, if_neg c5, if_neg c6, io k (by omega)]; simp only [Option.bind_some]; rw [if_pos h, iCopy_f ro nx F]; rfl⟩
  · have Q : ∀ {α : Type} {f : Nat → Option α} {r v : α}, (∀ k, 2097600 < k → f k = some r) → f 2097601 = some v → ∀ k, 2097600 < k → f k = some v := fun a b k hk => by rw [a k hk, ← a 2097601 (by omega), b]
    refine ⟨(0, 0, [], [], [], 1), ⟨by simp, by simp, by simp, fun c => absurd c (by decide)⟩, stepBad F h kd s tn da, fun k hk => ?_⟩
    unfold impl_DoStep.f
    by_cases c1 : kd = 1
    · obtain ⟨r, a, e1, e2⟩ := Make_both ro nx F s hs
      rw [if_pos c1, Q (f := fun k => impl_Make.f k ro nx nd di mv s) e2 (Make_bad F h s) k hk]; rfl
    by_cases c2 : kd = 2
    · obtain ⟨r, a, e1, e2⟩ := Add_both ro nx F s hs da hd
      rw [if_neg c1, if_pos c2, Q (f := fun k => impl_Add.f k ro nx nd di mv s da) e2 (Add_bad F h s da) k hk]; rfl
    by_cases c3 : kd = 3
    · obtain ⟨r, a, e1, e2⟩ := Sync_both ro nx F s hs
      rw [if_neg c1, if_neg c2, if_pos c3, Q (f := fun k => impl_Sync.f k ro nx nd di mv s) e2 (Sync_bad F h s) k hk]; rfl
    by_cases c4 : kd = 4
    · obtain ⟨r, a, e1, e2⟩ := Rename_both ro nx F s hs tn ht
      rw [if_neg c1, if_neg c2, if_neg c3, if_pos c4, Q (f := fun k => impl_Rename.f k ro nx nd di mv s tn) e2 (Rename_bad F h s tn) k hk]; rfl
    by_cases c5 : kd = 5
    · obtain ⟨r, a, e1, e2⟩ := Drop_both ro nx F s hs
      rw [if_neg c1, if_neg c2, if_neg c3, if_neg c4, if_pos c5, Q (f := fun k => impl_Drop.f k ro nx nd di mv s) e2 (Drop_bad F h s) k hk]; rfl
    by_cases c6 : kd = 6
    · obtain ⟨r, a, e1, e2⟩ := SyncDir_both ro nx F
      rw [if_neg c1, if_neg c2, if_neg c3, if_neg c4, if_neg c5, if_pos c6, Q (f := fun k => impl_SyncDir.f k ro nx nd di mv) e2 (SyncDir_bad F h) k hk]; rfl
    rw [if_neg c1, if_neg c2, if_neg c3, if_neg c4, if_neg c5, if_neg c6, iOk ro nx F k (by omega)]; simp only [Option.bind_some]; rw [if_neg h]

abbrev Rs := Int × Int × List Nd × List Lk × List Mv × Int × Int
abbrev Sp := S39
theorem rdSp (a : List Sp) (x : Sp) (b : List Sp) : rd_T39 (a ++ x :: b) (a.length : Int) = x := by simp [rd_T39, List.getD]
def SmallS (r : Rs) : Prop := r.2.2.1.length ≤ 1048600 ∧ r.2.2.2.1.length ≤ 1048600 ∧ r.2.2.2.2.1.length ≤ 1048600
theorem Fine.smallS {nd : List Nd} {di : List Lk} {mv : List Mv} (F : Fine nd di mv) (a b c d : Int) : SmallS (a, b, nd, di, mv, c, d) := ⟨(F.small a b c).1, (F.small a b c).2.1, (F.small a b c).2.2.1⟩
theorem sSteps_end (l : List Sp) (n i : Int) (ro nx : Int) (nd : List Nd) (di : List Lk) (mv : List Mv) (h0 : 0 ≤ i) (h1 : i ≤ l.length) (h2 : i = 0 ∨ i ≤ n) (h3 : n ≤ i ∨ (l.length : Int) ≤ i) (k : Nat) : spec_DoSteps.j1 (k + 1) l n i false ro nx nd di mv = some (ro, nx, nd, di, mv, i, 0) := by
  simp only [spec_DoSteps.j1]
  rw [if_neg (by decide)]
  by_cases c : n < 0
  · rw [if_pos c, if_neg (by omega), show i = 0 by omega]
  · rw [if_neg c]
    by_cases c2 : n > (l.length : Int)
    · rw [if_pos c2, show i = (l.length : Int) by omega]
    · rw [if_neg c2, show i = n by omega]
theorem iSteps_end (l : List Sp) (n i : Int) (ro nx : Int) (nd : List Nd) (di : List Lk) (mv : List Mv) (k : Nat) : impl_DoSteps.j1 (k + 1) l n i false ro nx nd di mv = some (ro, nx, nd, di, mv, i, 0) := by
  simp only [impl_DoSteps.j1]
  rw [if_neg (by decide)]
theorem steps_run (l : List Sp) (n : Int) (hl : l.length ≤ 20) (hz : ∀ x ∈ l, x.f1.size ≤ 1048576 ∧ x.f2.size ≤ 1048576 ∧ x.f3.size ≤ 1048576) : ∀ (b a : List Sp) (ro nx : Int) (nd : List Nd) (di : List Lk) (mv : List Mv), a ++ b = l → (a.length = 0 ∨ (a.length : Int) ≤ n) → Fine nd di mv →
    ∃ r : Rs, SmallS r ∧ (∀ k, 2097610 + 2 * b.length < k → spec_DoSteps.l0 k l n (a.length : Int) ro nx nd di mv = some r) ∧ (∀ k, 2097610 + 2 * b.length < k → impl_DoSteps.l0 k l n (a.length : Int) ro nx nd di mv = some r)
  | [], a, ro, nx, nd, di, mv, e, hn, F => by
    have ha : a = l := by simpa using e
    subst ha
    refine ⟨(ro, nx, nd, di, mv, (a.length : Int), 0), F.smallS _ _ _ _, fun k hk => ?_, fun k hk => ?_⟩
    · obtain ⟨q, rfl⟩ : ∃ m, k = m + 1 + 1 := ⟨k - 2, by omega⟩
      simp only [spec_DoSteps.l0]
      rw [if_neg (by omega), sSteps_end a n _ ro nx nd di mv (by omega) (by omega) (by omega) (by omega)]
    · obtain ⟨q, rfl⟩ : ∃ m, k = m + 1 + 1 := ⟨k - 2, by omega⟩
      simp only [impl_DoSteps.l0]
      rw [decide_eq_false (show ¬ (a.length : Int) < a.length by omega), ite_self, iSteps_end]
  | x :: b, a, ro, nx, nd, di, mv, e, hn, F => by
    have hlen : a.length + (b.length + 1) = l.length := by have := congrArg List.length e; rw [List.length_append, List.length_cons] at this; exact this
    have hx := hz x (by rw [← e]; simp)
    have hrd : rd_T39 l (a.length : Int) = x := by rw [← e]; exact rdSp a x b
    simp only [List.length_cons]
    by_cases c : (a.length : Int) < n
    · obtain ⟨r, hs, e1, e2⟩ := DoStep_both ro nx F x.f0 x.f1 x.f2 x.f3 hx.1 hx.2.1 hx.2.2
      have hw : wrap64 ((a.length : Int) + 1) = ((a ++ [x]).length : Int) := by rw [w64 (by omega) (by omega), List.length_append, List.length_singleton]; omega
      have S : ∀ k, 2097612 < k → spec_DoSteps.l0 k l n (a.length : Int) ro nx nd di mv = if r.2.2.2.2.2 = 0 then spec_DoSteps.l0 (k - 2) l n ((a ++ [x]).length : Int) r.1 r.2.1 r.2.2.1 r.2.2.2.1 r.2.2.2.2.1 else some (ro, nx, nd, di, mv, (a.length : Int), r.2.2.2.2.2) := by
        intro k hk
        obtain ⟨q, rfl⟩ : ∃ m, k = m + 1 + 1 := ⟨k - 2, by omega⟩
        simp only [spec_DoSteps.l0, spec_DoSteps.j1]
        rw [if_pos (show (a.length : Int) < (l.length : Int) by omega), decide_eq_true c, if_pos rfl, if_pos (show 0 ≤ (a.length : Int) by omega), if_pos (show (a.length : Int) < (l.length : Int) by omega), hrd, e1 q (by omega), hw]
        simp only [Option.bind_some]
        rfl
      have I : ∀ k, 2097612 < k → impl_DoSteps.l0 k l n (a.length : Int) ro nx nd di mv = if r.2.2.2.2.2 = 0 then impl_DoSteps.l0 (k - 2) l n ((a ++ [x]).length : Int) r.1 r.2.1 r.2.2.1 r.2.2.2.1 r.2.2.2.2.1 else some (ro, nx, nd, di, mv, (a.length : Int), r.2.2.2.2.2) := by
        intro k hk
        obtain ⟨q, rfl⟩ : ∃ m, k = m + 1 + 1 := ⟨k - 2, by omega⟩
        simp only [impl_DoSteps.l0, impl_DoSteps.j1]
        rw [if_pos c, decide_eq_true (show (a.length : Int) < (l.length : Int) by omega), if_pos rfl, if_pos (show 0 ≤ (a.length : Int) by omega), if_pos (show (a.length : Int) < (l.length : Int) by omega), hrd, e2 q (by omega), hw]
        simp only [Option.bind_some]
        rfl
      by_cases h0 : r.2.2.2.2.2 = 0
      · obtain ⟨r', hs', f1, f2⟩ := steps_run l n hl hz b (a ++ [x]) r.1 r.2.1 r.2.2.1 r.2.2.2.1 r.2.2.2.2.1 (by rw [List.append_assoc]; exact e) (.inr (by rw [List.length_append, List.length_singleton]; omega)) (hs.2.2.2 h0)
        exact ⟨r', hs', fun k hk => by rw [S k (by omega), if_pos h0, f1 _ (by omega)], fun k hk => by rw [I k (by omega), if_pos h0, f2 _ (by omega)]⟩
      · exact ⟨_, F.smallS _ _ _ _, fun k hk => by rw [S k (by omega), if_neg h0], fun k hk => by rw [I k (by omega), if_neg h0]⟩
    · refine ⟨(ro, nx, nd, di, mv, (a.length : Int), 0), F.smallS _ _ _ _, fun k hk => ?_, fun k hk => ?_⟩
      · obtain ⟨q, rfl⟩ : ∃ m, k = m + 1 + 1 := ⟨k - 2, by omega⟩
        simp only [spec_DoSteps.l0]
        rw [decide_eq_false c, ite_self, sSteps_end l n _ ro nx nd di mv (by omega) (by omega) (by omega) (by omega)]
      · obtain ⟨q, rfl⟩ : ∃ m, k = m + 1 + 1 := ⟨k - 2, by omega⟩
        simp only [impl_DoSteps.l0]
        rw [if_neg c, iSteps_end]
theorem DoSteps_both (ro nx : Int) {nd : List Nd} {di : List Lk} {mv : List Mv} (F : Fine nd di mv) (l : List Sp) (n : Int) (hz : ∀ x ∈ l, x.f1.size ≤ 1048576 ∧ x.f2.size ≤ 1048576 ∧ x.f3.size ≤ 1048576) : ∃ r : Rs, SmallS r ∧ (∀ k, 2097660 < k → spec_DoSteps.f k ro nx nd di mv l n = some r) ∧ (∀ k, 2097660 < k → impl_DoSteps.f k ro nx nd di mv l n = some r) := by
  by_cases h : okM ro nx nd di mv = true
  · by_cases hl : (l.length : Int) > 20
    · refine ⟨(ro, nx, nd, di, mv, 0, 1), F.smallS _ _ _ _, fun k hk => ?_, fun k hk => ?_⟩
      · unfold spec_DoSteps.f; rw [sOk ro nx F k (by omega)]; simp only [Option.bind_some]; rw [if_pos h, sCopy_f ro nx F]; simp only [Option.bind_some]; rw [if_pos hl]
      · unfold impl_DoSteps.f; rw [iOk ro nx F k (by omega)]; simp only [Option.bind_some]; rw [if_pos h, iCopy_f ro nx F]; simp only [Option.bind_some]; rw [if_pos hl]
    · obtain ⟨r, hs, f1, f2⟩ := steps_run l n (by omega) hz l [] ro nx nd di mv rfl (.inl rfl) F
      refine ⟨r, hs, fun k hk => ?_, fun k hk => ?_⟩
      · unfold spec_DoSteps.f; rw [sOk ro nx F k (by omega)]; simp only [Option.bind_some]; rw [if_pos h, sCopy_f ro nx F]; simp only [Option.bind_some]; rw [if_neg hl]; exact f1 k (by omega)
      · unfold impl_DoSteps.f; rw [iOk ro nx F k (by omega)]; simp only [Option.bind_some]; rw [if_pos h, iCopy_f ro nx F]; simp only [Option.bind_some]; rw [if_neg hl]; exact f2 k (by omega)
  · refine ⟨(0, 0, [], [], [], 0, 1), ⟨by simp, by simp, by simp⟩, fun k hk => ?_, fun k hk => ?_⟩
    · unfold spec_DoSteps.f; rw [sOk ro nx F k (by omega)]; simp only [Option.bind_some]; rw [if_neg h]
    · unfold impl_DoSteps.f; rw [iOk ro nx F k (by omega)]; simp only [Option.bind_some]; rw [if_neg h]

theorem FnExactDoSteps (a0_0 : Int) (a0_1 : Int) (l0_2 : List S121) (l0_3 : List S124) (l0_4 : List S127) (l1 : List S28) (a2 : Int) (w0_0 : (Lit.int .i64 a0_0).wf = true) (w0_1 : (Lit.int .i64 a0_1).wf = true) (m0_2 : l0_2.length ≤ maxLen) (g0_2 : ∀ z ∈ l0_2, (Lit.int .i64 z.f0).wf = true ∧ z.f1.size ≤ maxLen ∧ (Lit.int .i64 z.f2).wf = true) (m0_3 : l0_3.length ≤ maxLen) (g0_3 : ∀ z ∈ l0_3, z.f0.size ≤ maxLen ∧ (Lit.int .i64 z.f1).wf = true) (m0_4 : l0_4.length ≤ maxLen) (g0_4 : ∀ z ∈ l0_4, (Lit.int .i64 z.f0).wf = true ∧ z.f1.size ≤ maxLen ∧ z.f2.size ≤ maxLen ∧ (Lit.int .i64 z.f3).wf = true) (m1 : l1.length ≤ maxLen) (g1 : ∀ z ∈ l1, (Lit.int .i64 z.f0).wf = true ∧ z.f1.size ≤ maxLen ∧ z.f2.size ≤ maxLen ∧ z.f3.size ≤ maxLen) (w2 : (Lit.int .i64 a2).wf = true) : ∃ k, laws_FnExactDoSteps.f k a0_0 a0_1 l0_2 l0_3 l0_4 l1 a2 = some true := by
  obtain ⟨K, hK⟩ : ∃ K : Nat, K = 2097700 := ⟨_, rfl⟩
  refine ⟨K + 1 + 1 + 1, ?_⟩
  unfold laws_FnExactDoSteps.f
  obtain ⟨r, e, r0, r1, r2⟩ := szDisk_f a0_0 a0_1 l0_2 l0_3 l0_4 1048576 (by omega) (by omega) m0_2 m0_3 m0_4 (fun z hz => (g0_2 z hz).2.1) (fun z hz => (g0_3 z hz).1) (fun z hz => ⟨(g0_4 z hz).2.1, (g0_4 z hz).2.2.1⟩) (K + 1 + 1 + 1) (by omega)
  rw [e]; simp only [Option.bind_some]
  by_cases hr : r < 0
  · rw [if_pos hr]
  have F := r2 (by omega)
  have h0 := F.n
  have h1 := F.d
  have h2 := F.m
  have td := fun k hk => toDisk_f a0_0 a0_1 l0_2 l0_3 l0_4 F k hk
  rw [if_neg hr]
  obtain ⟨q, eq0, q0, q1, q2⟩ := laws_szStepS_f l1 r m1 (fun z hz => ⟨(g1 z hz).2.1, (g1 z hz).2.2.1, (g1 z hz).2.2.2⟩) (by omega) (by omega) (K + 1 + 1 + 1) (by omega)
  rw [eq0]; simp only [Option.bind_some]
  by_cases hq0 : q < 0
  · rw [if_pos hq0]
  rw [if_neg hq0]
  obtain ⟨hl, hz⟩ := q2 (by omega)
  have ts : ∀ k, 1048577 < k → laws_toStepS.f k l1 = some (l1.map cvStep) := fun k hk => laws_toStepS_f l1 (by omega) k (by omega)
  have hm : (l1.map cvStep).length ≤ 1048576 := by rw [List.length_map]; exact hl
  obtain ⟨⟨x0, x1, x2, x3, x4, x5, x6⟩, ⟨s1, s2, s3⟩, e1, e2⟩ := DoSteps_both a0_0 a0_1 F (l1.map cvStep) a2 (fun x hx => by obtain ⟨y, hy, rfl⟩ := List.mem_map.1 hx; exact hz y hy)
  simp only [] at s1 s2 s3
  have eq := fun k hk => eqDisk_f x0 x1 x2 x3 x4 (by omega) (by omega) (by omega) k hk
  rw [td _ (by omega), ts _ (by omega)]; simp only [Option.bind_some]
  rw [e1 _ (by omega), e2 _ (by omega)]; simp only [Option.bind_some]
  rw [eq _ (by omega)]; simp only [Option.bind_some]
  rw [if_pos trivial, if_pos trivial, bne_self_eq_false]
  simp only [laws_FnExactDoSteps.j0]
  rw [if_neg (by decide), td _ (by omega)]; simp only [Option.bind_some]
  rw [eqDisk_f a0_0 a0_1 _ _ _ (by omega) (by omega) (by omega) _ (by omega)]; simp only [Option.bind_some]
  rw [if_pos trivial, ts _ (by omega)]; simp only [Option.bind_some]
  rw [laws_eqStepS_f _ (by omega) _ (by omega)]; simp only [Option.bind_some]
  obtain ⟨n, nd', di', mv', em, ⟨hn, hn'⟩, _⟩ := markDisk_b a0_0 a0_1 (l0_2.map cvInode) (l0_3.map cvLink) (l0_4.map cvMove) (by omega) (by omega) (by omega) (K + 1 + 1) (by omega)
  rw [if_pos trivial, em]; simp only [Option.bind_some]
  rw [laws_markStepS_f _ n hn (by omega) _ (by omega)]; simp only [Option.bind_some]
  rw [if_neg (by omega), eq _ (by omega)]; simp only [Option.bind_some]
  rw [if_pos trivial, if_pos trivial, bne_self_eq_false]
  simp only [laws_FnExactDoSteps.j1]
  obtain ⟨n2, nd2, di2, mv2, em2, ⟨hn2, _⟩, held⟩ := markDisk_b x0 x1 x2 x3 x4 (by omega) (by omega) (by omega) (K + 1) (by omega)
  rw [if_neg (by decide), em2]; simp only [Option.bind_some]
  rw [held _ (by omega)]; simp only [Option.bind_some]
  rw [if_neg (by omega), if_pos trivial, td _ (by omega), ts _ (by omega)]; simp only [Option.bind_some]
  rw [e2 _ (by omega)]; simp only [Option.bind_some]
  rw [eq _ (by omega)]; simp only [Option.bind_some]
  rw [if_pos trivial, if_pos trivial, bne_self_eq_false]
  simp only [laws_FnExactDoSteps.j2]
  rw [if_neg (by decide), held _ (by omega)]; simp only [Option.bind_some]
  rw [if_neg (by omega), if_pos trivial]

end Go.Proofs.YtndbmllnkjngnaaGreat.Pure
