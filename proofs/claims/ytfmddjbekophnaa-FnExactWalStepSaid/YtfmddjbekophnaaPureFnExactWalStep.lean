/- A step of a log is that of the reference. -/
import Derived.Test.YtfmddjbekophnaaPFnExactWalStepx1
import Derived.Test.YtfmddjbekophnaaPFnExactWalStepx2
import Derived.Test.YtfmddjbekophnaaPFnExactWalStepx3
import Derived.Test.YtfmddjbekophnaaPFnExactWalStepx4
import Derived.Test.YtfmddjbekophnaaPFnExactWalStepx5
import Derived.Test.YtfmddjbekophnaaPFnExactWalStepx6
import Derived.Test.YtfmddjbekophnaaPFnExactWalStepx7
import Derived.Test.YtfmddjbekophnaaPFnExactWalStepx8
import Derived.Test.YtfmddjbekophnaaPFnExactWalStepx9
import Derived.Test.YtfmddjbekophnaaBase
import Derived.Test.YtfmddjbekophnaaNum
import Derived.Test.YtfmddjbekophnaaNumCrc
import Derived.Test.YtfmddjbekophnaaNumFrame
import Derived.Test.YtfmddjbekophnaaNumRec
import Derived.Test.YtfmddjbekophnaaNumDec
namespace Go.Proofs.Ytfmddjbekophnaa.Pure
open Go.RowKit Go.Proofs.Ytfmddjbekophnaa.PFnExactWalStep Go.Proofs.YtfmddjbekophnaaW.PrintWords Go.Proofs.YtfmddjbekophnaaW.PrintLast Go.Proofs.YtfmddjbekophnaaW.PrintMore Go.Proofs.Ytfmddjbekophnaa.Base
set_option linter.unusedVariables false
set_option linter.unusedSimpArgs false

/-! ranges -/
theorem spec_l1In_run (a b c : Int) : spec_l1In.f a b c = some (decide (b ≤ a ∧ a ≤ c)) := by
  unfold spec_l1In.f
  by_cases h : a ≥ b
  · rw [if_pos h]; congr 1; simp [show b ≤ a from h]
  · rw [if_neg h]; congr 1; simp; omega

theorem impl_from_run (a b c : Int) : impl_from.f a b c = some (decide (b ≤ a ∧ a ≤ c)) := by
  unfold impl_from.f
  by_cases h : a ≥ b
  · rw [if_pos h]; congr 1; simp [show b ≤ a from h]
  · rw [if_neg h]; congr 1; simp; omega

/-! RecOk -/
theorem spec_l5Based_run (i t : Int) : spec_l5Based.f i t = some (placeM i t) := by
  unfold spec_l5Based.f placeM
  simp only [spec_l1In_run, Option.bind_some, decide_eq_true_eq]
  repeat' split
  all_goals (congr 1; rw [Bool.eq_iff_iff]; simp only [decide_eq_true_eq, Bool.and_eq_true, beq_iff_eq, true_iff, Bool.false_eq_true, false_iff, iff_true, iff_false]; omega)

theorem impl_isTerm_run (a : Int) : impl_isTerm.f a = some (decide (1 ≤ a ∧ a ≤ 100000)) := by
  unfold impl_isTerm.f; rw [impl_from_run]; rfl
theorem impl_isVote_run (a : Int) : impl_isVote.f a = some (decide (-1 ≤ a ∧ a ≤ 4)) := by
  unfold impl_isVote.f; rw [impl_from_run]; rfl
theorem impl_isPlace_run (i t : Int) : impl_isPlace.f i t = some (placeM i t) := by
  unfold impl_isPlace.f placeM
  simp only [impl_from_run, impl_isTerm_run, Option.bind_some, decide_eq_true_eq]
  repeat' split
  all_goals (congr 1; rw [Bool.eq_iff_iff]; simp only [decide_eq_true_eq, Bool.and_eq_true, beq_iff_eq, true_iff, Bool.false_eq_true, false_iff, iff_true, iff_false]; omega)

theorem spec_RecOk_run (k t i v : Int) (d : ByteArray) : spec_RecOk.f k t i v d = some (recOkM k t i v d.size) := by
  unfold spec_RecOk.f recOkM
  simp only [spec_l1In_run, spec_l5Based_run, Option.bind_some, decide_eq_true_eq, toList_nil]
  repeat' split
  all_goals (first | rfl | (exfalso; omega) | (congr 1; (try simp only [placeM, decide_eq_true_eq] at *); rw [Bool.eq_iff_iff]; (try simp only [decide_eq_true_eq, Bool.and_eq_true, beq_iff_eq, true_iff, Bool.false_eq_true, false_iff, iff_true, iff_false]); omega))

theorem impl_RecOk_run (k t i v : Int) (d : ByteArray) : impl_RecOk.f k t i v d = some (recOkM k t i v d.size) := by
  unfold impl_RecOk.f recOkM
  simp only [impl_from_run, impl_isTerm_run, impl_isVote_run, impl_isPlace_run, Option.bind_some, decide_eq_true_eq, toList_nil]
  repeat' split
  all_goals (first | rfl | (exfalso; omega) | (congr 1; (try simp only [placeM, decide_eq_true_eq] at *); rw [Bool.eq_iff_iff]; (try simp only [decide_eq_true_eq, Bool.and_eq_true, beq_iff_eq, true_iff, Bool.false_eq_true, false_iff, iff_true, iff_false]); omega))

/-! marks -/
def mT (n : Int) : ByteArray := strOfNums (109 :: decN n.toNat)
theorem str109 : (⟨#[109]⟩ : ByteArray) = strOfNums [109] := by decide

theorem laws_markText_loop : ∀ (d k n : Nat) (l : List Int), n < 10 ^ d → (0 < n → True) → n ≤ 4611686018427387904 → l.length + d < 90 → d < k →
    laws_markText.l0 k (n : Int) (strOfNums l) = some (strOfNums (109 :: ((if n = 0 then [] else decN n) ++ l))) := by
  intro d
  induction d with
  | zero =>
    intro k n l n1 _ hd hl hk
    obtain ⟨q, rfl⟩ : ∃ m, k = m + 1 := ⟨k - 1, by omega⟩
    have hn : n = 0 := by omega
    simp only [laws_markText.l0]
    rw [if_neg (by omega), if_pos (by rw [size_strOfNums]; omega), if_pos hn, str109, strOfNums_append]; rfl
  | succ d ih =>
    intro k n l n1 _ hd hl hk
    obtain ⟨q, rfl⟩ : ∃ m, k = m + 1 := ⟨k - 1, by omega⟩
    by_cases h0 : n = 0
    · simp only [laws_markText.l0]
      rw [if_neg (by omega), if_pos (by rw [size_strOfNums]; omega), if_pos h0, str109, strOfNums_append]; rfl
    · simp only [laws_markText.l0]
      rw [if_pos (by omega), tmod_nn (by omega), tdiv_nn (by omega), w64 (n := 48 + (n : Int) % 10) (by omega) (by omega), w64 (n := (n : Int) / 10) (by omega) (by omega)]
      simp only [Option.bind_some]
      rw [if_pos (by rw [size_strOfNums, size_strOfNums]; simp; omega), strOfNums_append, show (n : Int) / 10 = ((n / 10 : Nat) : Int) by omega, ih q (n / 10) _ (by rw [pow10] at n1; omega) (fun _ => trivial) (by omega) (by simp; omega) (by omega), if_neg h0]
      by_cases h : n < 10
      · rw [if_pos (by omega), decN_lt h, show (48 + (n : Int) % 10) % 256 = 48 + (n : Int) by omega]; simp
      · rw [if_neg (by omega), decN_ge h, show (48 + (n : Int) % 10) % 256 = 48 + ((n % 10 : Nat) : Int) by omega]; simp

theorem laws_markText_f (n : Int) (h0 : 0 < n) (h1 : n ≤ 4611686018427387904) (k : Nat) (hk : 30 < k) : laws_markText.f k n = some (mT n) := by
  unfold laws_markText.f
  rw [if_neg (by omega)]
  have := laws_markText_loop 19 k n.toNat [] (by omega) (fun _ => trivial) (by omega) (by simp) (by omega)
  rw [show ((n.toNat : Nat) : Int) = n by omega] at this
  rw [show (⟨#[]⟩ : ByteArray) = strOfNums [] from rfl, this, if_neg (by omega)]; simp [mT]

theorem rdA139 (a : List S139) (x : S139) (b : List S139) : rd_T139 (a ++ x :: b) (a.length : Int) = x := by simp [rd_T139, List.getD]
theorem setA139 (a : List S139) (x y : S139) (b : List S139) : (a ++ x :: b).set ((a.length : Int)).toNat y = a ++ y :: b := by
  rw [show ((a.length : Int)).toNat = a.length by omega, List.set_append_right _ _ (Nat.le_refl _), Nat.sub_self, List.set_cons_zero]
theorem rdA117 (a : List S117) (x : S117) (b : List S117) : rd_T117 (a ++ x :: b) (a.length : Int) = x := by simp [rd_T117, List.getD]
theorem setA117 (a : List S117) (x y : S117) (b : List S117) : (a ++ x :: b).set ((a.length : Int)).toNat y = a ++ y :: b := by
  rw [show ((a.length : Int)).toNat = a.length by omega, List.set_append_right _ _ (Nat.le_refl _), Nat.sub_self, List.set_cons_zero]
theorem laws_szEntry_f (a0 : Int) (a1 : ByteArray) (left : Int) (h1 : a1.size ≤ maxLen) (l0 : 0 ≤ left) (l1 : left ≤ 1048576) : ∃ r, laws_szEntry.f a0 a1 left = some r ∧ -1 ≤ r ∧ r ≤ left ∧ (0 ≤ r → 0 ≤ left ∧ (a1.size : Int) ≤ left) := by
  unfold laws_szEntry.f
  unfold maxLen at h1
  have e1 : wrap64 (left - (a1.size : Int)) = left - (a1.size : Int) := w64 (by omega) (by omega)
  simp only [e1]
  by_cases g1 : left - (a1.size : Int) < 0
  · rw [if_pos g1]; exact ⟨-1, rfl, by omega, by omega, fun h => by omega⟩
  · rw [if_neg g1]
    exact ⟨_, rfl, by omega, by omega, fun h => by omega⟩
theorem laws_szEntryS_run : ∀ (b a : List S139) (k : Nat) (left : Int), a.length + b.length ≤ 1048576 → (∀ x ∈ b, x.f1.size ≤ maxLen) → 0 ≤ left → left ≤ 1048576 → b.length < k →
    ∃ r, laws_szEntryS.l0 k (a ++ b) left (a.length : Int) = some r ∧ -1 ≤ r ∧ r ≤ left ∧ (0 ≤ r → ∀ x ∈ b, (x.f1.size : Int) ≤ left) := by
  intro b
  induction b with
  | nil =>
    intro a k left h0 hg l0 l1 hk
    obtain ⟨q, rfl⟩ : ∃ m, k = m + 1 := ⟨k - 1, by omega⟩
    simp only [laws_szEntryS.l0]
    rw [if_neg (by simp)]
    exact ⟨left, rfl, by omega, by omega, fun _ x hx => by simp at hx⟩
  | cons x b ih =>
    intro a k left h0 hg l0 l1 hk
    simp only [List.length_cons] at h0 hk
    obtain ⟨q, rfl⟩ : ∃ m, k = m + 1 := ⟨k - 1, by omega⟩
    simp only [laws_szEntryS.l0]
    rw [if_pos (by simp; omega), if_pos (by omega), rdA139]
    have hgx := hg x (List.mem_cons_self)
    obtain ⟨r, e, r0, r1, r2⟩ := laws_szEntry_f x.f0 x.f1 left hgx l0 l1
    rw [e]; simp only [Option.bind_some]
    by_cases hr : r < 0
    · rw [if_pos hr]; exact ⟨-1, rfl, by omega, by omega, fun h => by omega⟩
    · rw [if_neg hr, w64 (n := (a.length : Int) + 1) (by omega) (by omega)]
      obtain ⟨s, f, s0, s1, s2⟩ := ih (a ++ [x]) q r (by simp; omega) (fun y hy => hg y (List.mem_cons_of_mem _ hy)) (by omega) (by omega) (by omega)
      rw [List.append_assoc, List.singleton_append, show (((a ++ [x]).length : Nat) : Int) = (a.length : Int) + 1 by simp] at f
      refine ⟨s, f, s0, by omega, fun hs y hy => ?_⟩
      have r3 := r2 (by omega)
      rcases List.mem_cons.1 hy with rfl | hy
      · omega
      · have := s2 hs y hy
        omega
theorem laws_szEntryS_f (l : List S139) (left : Int) (hl : l.length ≤ maxLen) (hg : ∀ x ∈ l, x.f1.size ≤ maxLen) (l0 : 0 ≤ left) (l1 : left ≤ 1048576) (k : Nat) (hk : 1048577 < k) :
    ∃ r, laws_szEntryS.f k l left = some r ∧ -1 ≤ r ∧ r ≤ left ∧ (0 ≤ r → l.length ≤ 1048576 ∧ ∀ x ∈ l, x.f1.size ≤ 1048576) := by
  unfold laws_szEntryS.f maxLen at *
  rw [w64 (n := left - (l.length : Int)) (by omega) (by omega)]
  by_cases h : left - (l.length : Int) < 0
  · rw [if_pos h]; exact ⟨-1, rfl, by omega, by omega, fun h => by omega⟩
  · rw [if_neg h]
    obtain ⟨r, e, r0, r1, r2⟩ := laws_szEntryS_run l [] k (left - (l.length : Int)) (by simp; omega) (fun x hx => by have := hg x hx; (unfold maxLen; exact this)) (by omega) (by omega) (by omega)
    refine ⟨r, by simpa using e, r0, by omega, fun hr => ⟨by omega, fun x hx => ?_⟩⟩
    have := r2 hr x hx
    omega
def cvEntry (x : S139) : S117 := ⟨x.f0, x.f1⟩
theorem laws_toEntryS_run : ∀ (b a : List S139) (k : Nat), a.length + b.length ≤ 1048576 → b.length < k →
    laws_toEntryS.l0 k (a ++ b) (a.map cvEntry ++ List.replicate b.length z117) (a.length : Int) = some ((a ++ b).map cvEntry) := by
  intro b
  induction b with
  | nil =>
    intro a k h0 hk
    obtain ⟨q, rfl⟩ : ∃ m, k = m + 1 := ⟨k - 1, by omega⟩
    simp only [laws_toEntryS.l0]
    rw [if_neg (by simp)]; simp
  | cons x b ih =>
    intro a k h0 hk
    simp only [List.length_cons] at h0 hk
    obtain ⟨q, rfl⟩ : ∃ m, k = m + 1 := ⟨k - 1, by omega⟩
    simp only [laws_toEntryS.l0]
    rw [if_pos (by simp; omega), if_pos (by omega), rdA139]
    simp only [laws_toEntry.f, Option.bind_some]
    rw [if_pos (by simp; omega), w64 (n := (a.length : Int) + 1) (by omega) (by omega), List.length_cons, List.replicate_succ]
    have hs := setA117 (a.map cvEntry) z117 (cvEntry x) (List.replicate b.length z117)
    rw [List.length_map] at hs
    rw [show (⟨x.f0, x.f1⟩ : S117) = cvEntry x from rfl, hs]
    have f := ih (a ++ [x]) q (by simp; omega) (by omega)
    rw [List.append_assoc, List.singleton_append, show (((a ++ [x]).length : Nat) : Int) = (a.length : Int) + 1 by simp, List.map_append, List.map_singleton, List.append_assoc, List.singleton_append] at f
    exact f
theorem laws_toEntryS_f (l : List S139) (hl : l.length ≤ 1048576) (k : Nat) (hk : l.length < k) : laws_toEntryS.f k l = some (l.map cvEntry) := by
  unfold laws_toEntryS.f
  rw [if_pos (by omega), show ((l.length : Int)).toNat = l.length by omega, if_pos (by omega)]
  have := laws_toEntryS_run l [] k (by simp; omega) hk
  simpa using this
theorem laws_eqEntry_f (a0 : Int) (a1 : ByteArray) : laws_eqEntry.f a0 a1 a0 a1 = some true := by unfold laws_eqEntry.f; simp
theorem laws_eqEntryS_run (l : List S117) (hl : l.length ≤ 1099511627776) : ∀ (d k : Nat) (i : Int), 0 ≤ i → i + d = l.length → d < k → laws_eqEntryS.l0 k l l i = some true := by
  intro d
  induction d with
  | zero =>
    intro k i h0 h1 hk
    obtain ⟨q, rfl⟩ : ∃ m, k = m + 1 := ⟨k - 1, by omega⟩
    simp only [laws_eqEntryS.l0]; rw [if_neg (by omega)]
  | succ d ih =>
    intro k i h0 h1 hk
    obtain ⟨q, rfl⟩ : ∃ m, k = m + 1 := ⟨k - 1, by omega⟩
    simp only [laws_eqEntryS.l0]
    rw [if_pos (by omega), if_pos h0, if_pos (by omega), laws_eqEntry_f, w64 (n := i + 1) (by omega) (by omega)]
    simp only [Option.bind_some]
    rw [if_pos trivial, ih q (i + 1) (by omega) (by omega) (by omega)]
theorem laws_eqEntryS_f (l : List S117) (hl : l.length ≤ 1099511627776) (k : Nat) (hk : l.length < k) : laws_eqEntryS.f k l l = some true := by
  unfold laws_eqEntryS.f; rw [if_pos rfl]; exact laws_eqEntryS_run l hl l.length k 0 (by omega) (by omega) hk
def mkEntry (m : Int) : S117 := ⟨m, mT (m + 1)⟩
def marksEntry : Int → Nat → List S117
  | _, 0 => []
  | m, n + 1 => mkEntry m :: marksEntry (m + 1 + 1) n
theorem marksEntry_length : ∀ (n : Nat) (m : Int), (marksEntry m n).length = n
  | 0, _ => rfl
  | n + 1, m => by simp [marksEntry, marksEntry_length n]
theorem laws_markEntryS_run : ∀ (b a : List S117) (k : Nat) (m : Int), 0 < m → m + 2 * b.length ≤ 1099511627776 → a.length + b.length ≤ 1099511627776 → b.length + 40 < k →
    laws_markEntryS.l0 k (a ++ b) m (a.length : Int) = some (m + 2 * b.length, a ++ marksEntry m b.length) := by
  intro b
  induction b with
  | nil =>
    intro a k m h0 h1 h2 hk
    obtain ⟨q, rfl⟩ : ∃ m, k = m + 1 := ⟨k - 1, by omega⟩
    simp only [laws_markEntryS.l0]; rw [if_neg (by simp)]; simp [marksEntry]
  | cons x b ih =>
    intro a k m h0 h1 h2 hk
    simp only [List.length_cons] at h1 h2 hk
    obtain ⟨q, rfl⟩ : ∃ m, k = m + 1 := ⟨k - 1, by omega⟩
    have e1 : wrap64 (m + 1) = m + 1 := w64 (by omega) (by omega)
    have e2 : wrap64 (m + 1 + 1) = m + 1 + 1 := w64 (by omega) (by omega)
    have t1 := laws_markText_f (m + 1) (by omega) (by omega) q (by omega)
    simp only [laws_markEntryS.l0]
    rw [if_pos (by simp; omega), if_pos (by omega), w64 (n := (a.length : Int) + 1) (by omega) (by omega)]
    simp only [e1, e2, t1, Option.bind_some, setA117, rdA117]
    have f := ih (a ++ [mkEntry m]) q (m + 1 + 1) (by omega) (by omega) (by simp; omega) (by omega)
    rw [List.append_assoc, List.singleton_append, show (((a ++ [mkEntry m]).length : Nat) : Int) = (a.length : Int) + 1 by simp] at f
    refine Eq.trans f ?_
    simp [marksEntry]; omega
theorem laws_markEntryS_f (l : List S117) (m : Int) (h0 : 0 < m) (h1 : m + 2 * l.length ≤ 1099511627776) (k : Nat) (hk : l.length + 40 < k) : laws_markEntryS.f k l m = some (m + 2 * l.length, marksEntry m l.length) := by
  unfold laws_markEntryS.f
  have := laws_markEntryS_run l [] k m h0 h1 (by simp; omega) hk
  simpa using this
theorem laws_heldEntryS_run : ∀ (n : Nat) (a : List S117) (k : Nat) (m : Int), 0 < m → m + 2 * n ≤ 1099511627776 → a.length + n ≤ 1099511627776 → n + 40 < k →
    laws_heldEntryS.l0 k (a ++ marksEntry m n) m (a.length : Int) = some (m + 2 * n) := by
  intro n
  induction n with
  | zero =>
    intro a k m h0 h1 h2 hk
    obtain ⟨q, rfl⟩ : ∃ m, k = m + 1 := ⟨k - 1, by omega⟩
    simp only [laws_heldEntryS.l0]; rw [if_neg (by simp [marksEntry])]; simp
  | succ n ih =>
    intro a k m h0 h1 h2 hk
    obtain ⟨q, rfl⟩ : ∃ m, k = m + 1 := ⟨k - 1, by omega⟩
    have e1 : wrap64 (m + 1) = m + 1 := w64 (by omega) (by omega)
    have e2 : wrap64 (m + 1 + 1) = m + 1 + 1 := w64 (by omega) (by omega)
    have t1 := laws_markText_f (m + 1) (by omega) (by omega) q (by omega)
    have f := ih (a ++ [mkEntry m]) q (m + 1 + 1) (by omega) (by omega) (by simp; omega) (by omega)
    rw [List.append_assoc, List.singleton_append, show (((a ++ [mkEntry m]).length : Nat) : Int) = (a.length : Int) + 1 by simp] at f
    have hl : (a ++ marksEntry m (n + 1)).length = a.length + (n + 1) := by rw [List.length_append, marksEntry_length]
    simp only [laws_heldEntryS.l0]
    rw [if_pos (by rw [hl]; omega), if_pos (by omega), w64 (n := (a.length : Int) + 1) (by omega) (by omega), marksEntry]
    simp only [e1, e2, t1, Option.bind_some, rdA117, mkEntry, if_true]
    refine Eq.trans f ?_
    congr 1; omega
theorem laws_heldEntryS_f (n : Nat) (m : Int) (h0 : 0 < m) (h1 : m + 2 * n ≤ 1099511627776) (k : Nat) (hk : n + 40 < k) : laws_heldEntryS.f k (marksEntry m n) m = some (m + 2 * n) := by
  unfold laws_heldEntryS.f
  have := laws_heldEntryS_run n [] k m h0 h1 (by simp; omega) hk
  simpa using this

/-! WalOk -/
def termsM : Int → Int → List S117 → Bool
  | _, _, [] => true
  | low, hi, e :: r => decide (1 ≤ e.f0 ∧ low ≤ e.f0 ∧ e.f0 ≤ hi ∧ e.f1.size ≤ 900) && termsM e.f0 hi r
def walOkM (t v b bt : Int) (l : List S117) : Bool := decide (0 ≤ t ∧ t ≤ 100000 ∧ -1 ≤ v ∧ v ≤ 4 ∧ placeM b bt = true ∧ bt ≤ t ∧ l.length ≤ 60 ∧ b + l.length ≤ 100000) && termsM bt t l

theorem spec_WalOk_run (t v bs bt : Int) : ∀ (b a : List S117) (k : Nat) (low : Int), a.length + b.length ≤ 1048576 → b.length < k →
    spec_WalOk.l0 k low (a.length : Int) t v bs bt (a ++ b) = some (termsM low t b) := by
  intro b
  induction b with
  | nil =>
    intro a k low h0 hk
    obtain ⟨q, rfl⟩ : ∃ m, k = m + 1 := ⟨k - 1, by omega⟩
    simp only [spec_WalOk.l0]; rw [if_neg (by simp)]; rfl
  | cons x b ih =>
    intro a k low h0 hk
    simp only [List.length_cons] at h0 hk
    obtain ⟨q, rfl⟩ : ∃ m, k = m + 1 := ⟨k - 1, by omega⟩
    have f := ih (a ++ [x]) q x.f0 (by simp; omega) (by omega)
    rw [List.append_assoc, List.singleton_append, show (((a ++ [x]).length : Nat) : Int) = (a.length : Int) + 1 by simp] at f
    simp only [spec_WalOk.l0, rdA117, termsM]
    rw [if_pos (by simp; omega), if_pos (by omega), w64 (n := (a.length : Int) + 1) (by omega) (by omega), f]
    by_cases h : 1 ≤ x.f0 ∧ low ≤ x.f0 ∧ x.f0 ≤ t ∧ x.f1.size ≤ 900
    · rw [if_neg (by omega), if_neg (by omega), if_neg (by omega), if_neg (by omega), decide_eq_true h, Bool.true_and]
    · rw [decide_eq_false h, Bool.false_and]
      repeat' split
      all_goals (first | rfl | (exfalso; omega))

theorem spec_WalOk_f (t v b bt : Int) (l : List S117) (hl : l.length ≤ 1048576) (k : Nat) (hk : 1048578 < k) : spec_WalOk.f k t v b bt l = some (walOkM t v b bt l) := by
  obtain ⟨q, rfl⟩ : ∃ m, k = m + 1 := ⟨k - 1, by omega⟩
  have f := spec_WalOk_run t v b bt l [] q bt (by simp; omega) (by omega)
  simp only [List.nil_append, List.length_nil] at f
  unfold spec_WalOk.f walOkM
  simp only [spec_l1In_run, spec_l5Based_run, Option.bind_some, decide_eq_true_eq, spec_WalOk.j0]
  by_cases h1 : 0 ≤ t ∧ t ≤ 100000
  · rw [if_pos h1]
    by_cases h2 : -1 ≤ v ∧ v ≤ 4
    · rw [if_pos h2]
      by_cases h3 : placeM b bt = true
      · have hb : 0 ≤ b ∧ b ≤ 100000 := by unfold placeM at h3; simp only [decide_eq_true_eq] at h3; omega
        rw [if_pos h3]
        by_cases h4 : bt > t
        · rw [if_pos h4, if_pos trivial, decide_eq_false (by omega), Bool.false_and]
        · rw [if_neg h4]
          by_cases h5 : (l.length : Int) > 60
          · rw [if_pos h5, if_pos trivial, decide_eq_false (by omega), Bool.false_and]
          · rw [if_neg h5, w64 (by omega) (by omega)]
            by_cases h6 : b + (l.length : Int) > 100000
            · rw [if_pos h6, decide_eq_false (by omega), Bool.false_and]
            · rw [if_neg h6, decide_eq_true ⟨h1.1, h1.2, h2.1, h2.2, h3, by omega, by omega, by omega⟩, Bool.true_and]
              exact f
      · rw [if_neg h3, if_pos trivial, decide_eq_false (fun g => h3 g.2.2.2.2.1), Bool.false_and]
    · rw [if_neg h2, if_pos trivial, decide_eq_false (fun g => h2 ⟨g.2.2.1, g.2.2.2.1⟩), Bool.false_and]
  · rw [if_neg h1, if_pos trivial, decide_eq_false (fun g => h1 ⟨g.1, g.2.1⟩), Bool.false_and]

theorem impl_termsOk_run (hi : Int) : ∀ (b a : List S117) (k : Nat) (low : Int), a.length + b.length ≤ 1048576 → b.length < k →
    impl_termsOk.l0 k low hi (a ++ b) ((a ++ b).length : Int) (a.length : Int) = some (termsM low hi b) := by
  intro b
  induction b with
  | nil =>
    intro a k low h0 hk
    obtain ⟨q, rfl⟩ : ∃ m, k = m + 1 := ⟨k - 1, by omega⟩
    simp only [impl_termsOk.l0]; rw [if_neg (by simp)]; rfl
  | cons x b ih =>
    intro a k low h0 hk
    simp only [List.length_cons] at h0 hk
    obtain ⟨q, rfl⟩ : ∃ m, k = m + 1 := ⟨k - 1, by omega⟩
    have f := ih (a ++ [x]) q x.f0 (by simp; omega) (by omega)
    rw [List.append_assoc, List.singleton_append, show (((a ++ [x]).length : Nat) : Int) = (a.length : Int) + 1 by simp] at f
    simp only [impl_termsOk.l0, rdA117, termsM, impl_from_run, Option.bind_some, decide_eq_true_eq]
    rw [if_pos (by simp; omega), if_pos (by omega), if_pos (by simp; omega), w64 (n := (a.length : Int) + 1) (by omega) (by omega), f]
    by_cases h : 1 ≤ x.f0 ∧ low ≤ x.f0 ∧ x.f0 ≤ hi ∧ x.f1.size ≤ 900
    · rw [if_neg (by omega), if_pos (by omega), if_neg (by omega), decide_eq_true h, Bool.true_and]
    · rw [decide_eq_false h, Bool.false_and]
      repeat' split
      all_goals (first | rfl | (exfalso; omega))
theorem impl_WalOk_f (t v b bt : Int) (l : List S117) (hl : l.length ≤ 1048576) (k : Nat) (hk : 1048578 < k) : impl_WalOk.f k t v b bt l = some (walOkM t v b bt l) := by
  have f := impl_termsOk_run t l [] k bt (by simp; omega) (by omega)
  simp only [List.nil_append, List.length_nil] at f
  unfold impl_WalOk.f walOkM impl_termsOk.f
  rw [show ((0 : Nat) : Int) = 0 from rfl] at f
  simp only [impl_from_run, impl_isVote_run, impl_isPlace_run, Option.bind_some, decide_eq_true_eq, f]
  by_cases h1 : 0 ≤ t ∧ t ≤ 100000
  · rw [if_pos h1]
    by_cases h2 : -1 ≤ v ∧ v ≤ 4
    · rw [if_pos h2]
      by_cases h3 : placeM b bt = true
      · have hb : 0 ≤ b ∧ b ≤ 100000 := by unfold placeM at h3; simp only [decide_eq_true_eq] at h3; omega
        rw [if_pos h3]
        by_cases h4 : bt ≤ t
        · rw [if_pos h4]
          by_cases h5 : (l.length : Int) ≤ 60
          · rw [if_pos h5, w64 (by omega) (by omega)]
            by_cases h6 : b + (l.length : Int) ≤ 100000
            · rw [decide_eq_true h6, decide_eq_true ⟨h1.1, h1.2, h2.1, h2.2, h3, h4, by omega, h6⟩, Bool.true_and]
              cases termsM bt t l <;> simp
            · rw [decide_eq_false h6, decide_eq_false (fun g => h6 g.2.2.2.2.2.2.2), Bool.false_and]
              cases termsM bt t l <;> simp
          · rw [if_neg h5, decide_eq_false (by omega), Bool.false_and]
        · rw [if_neg h4, decide_eq_false (by omega), Bool.false_and]
      · rw [if_neg h3, decide_eq_false (fun g => h3 g.2.2.2.2.1), Bool.false_and]
    · rw [if_neg h2, decide_eq_false (fun g => h2 ⟨g.2.2.1, g.2.2.2.1⟩), Bool.false_and]
  · rw [if_neg h1, decide_eq_false (fun g => h1 ⟨g.1, g.2.1⟩), Bool.false_and]

/-! the laws' own functions of a Wal -/
theorem laws_szWal_f (t v b bt : Int) (l : List S139) (left : Int) (hl : l.length ≤ maxLen) (hg : ∀ x ∈ l, x.f1.size ≤ maxLen) (l0 : 0 ≤ left) (l1 : left ≤ 1048576) (k : Nat) (hk : 1048577 < k) :
    ∃ r, laws_szWal.f k t v b bt l left = some r ∧ -1 ≤ r ∧ r ≤ left ∧ (0 ≤ r → l.length ≤ 1048576 ∧ ∀ x ∈ l, x.f1.size ≤ 1048576) := by
  obtain ⟨r, e, r0, r1, r2⟩ := laws_szEntryS_f l left hl hg l0 l1 k hk
  unfold laws_szWal.f
  rw [e]; simp only [Option.bind_some]
  split
  · exact ⟨-1, rfl, by omega, by omega, fun h => by omega⟩
  · exact ⟨r, rfl, r0, r1, r2⟩
theorem laws_toWal_f (t v b bt : Int) (l : List S139) (hl : l.length ≤ 1048576) (k : Nat) (hk : 1048577 < k) : laws_toWal.f k t v b bt l = some (t, v, b, bt, l.map cvEntry) := by
  unfold laws_toWal.f; rw [laws_toEntryS_f l hl k (by omega)]; rfl
theorem laws_eqWal_f (t v b bt : Int) (l : List S117) (hl : l.length ≤ 1048576) (k : Nat) (hk : 1048577 < k) : laws_eqWal.f k t v b bt l t v b bt l = some true := by
  unfold laws_eqWal.f; rw [laws_eqEntryS_f l (by omega) k (by omega)]; simp

theorem laws_markWal_f (t v b bt : Int) (l : List S117) (m : Int) (h0 : 0 < m) (h1 : m + 2 * l.length ≤ 1099511627776) (k : Nat) (hk : l.length + 40 < k) : laws_markWal.f k t v b bt l m = some (m + 2 * l.length, marksEntry m l.length) := by
  unfold laws_markWal.f; rw [laws_markEntryS_f l m h0 h1 k hk]; rfl

/-! WalStep -/
def hardFitM (t v t' v' : Int) : Bool := decide (t < t' ∨ (t' = t ∧ (v = -1 ∨ v = v')))
theorem impl_hardFits_run (t v b bt : Int) (l : List S117) (t' v' : Int) : impl_hardFits.f t v b bt l t' v' = some (hardFitM t v t' v') := by
  unfold impl_hardFits.f hardFitM
  repeat' split
  all_goals (congr 1; rw [Bool.eq_iff_iff]; simp only [decide_eq_true_eq, beq_iff_eq, true_iff, Bool.false_eq_true, false_iff]; omega)
theorem walOkM_len {t v b bt : Int} {l : List S117} (h : walOkM t v b bt l = true) : l.length ≤ 60 ∧ 0 ≤ b ∧ b ≤ 100000 := by
  unfold walOkM at h
  simp only [Bool.and_eq_true, decide_eq_true_eq] at h
  have h3 := h.1.2.2.2.2.1
  unfold placeM at h3; simp only [decide_eq_true_eq] at h3; omega
def lastM (bt : Int) (l : List S117) : Int := if (l.length : Int) = 0 then bt else (rd_T117 l ((l.length : Int) - 1)).f0
theorem impl_lastTerm_run (t v b bt : Int) (l : List S117) (hl : l.length ≤ 60) : impl_lastTerm.f t v b bt l = some (lastM bt l) := by
  unfold impl_lastTerm.f lastM
  by_cases h : (l.length : Int) = 0
  · rw [if_pos h, if_pos h]
  · rw [if_neg h, if_neg h, w64 (n := (l.length : Int) - 1) (by omega) (by omega), if_pos (by omega), if_pos (by omega)]
theorem spec_lastTerm_run (t v b bt : Int) (l : List S117) (hl : l.length ≤ 60) : spec_l5LastTerm.f t v b bt l = some (lastM bt l) := by
  unfold spec_l5LastTerm.f lastM
  by_cases h : (l.length : Int) = 0
  · rw [if_pos h, if_pos h]
  · rw [if_neg h, if_neg h, w64 (n := (l.length : Int) - 1) (by omega) (by omega), if_pos (by omega), if_pos (by omega)]
def fitM (t v b bt : Int) (l : List S117) (c t' i v' : Int) : Bool :=
  if c = 1 then hardFitM t v t' v' else if c = 2 then decide (i = b + (l.length : Int) + 1 ∧ (l.length : Int) < 60 ∧ lastM bt l ≤ t' ∧ t' ≤ t) else if c = 3 then decide (b < i ∧ i ≤ b + (l.length : Int)) else false
def applyM (t v b bt : Int) (l : List S117) (c t' i v' : Int) (d : ByteArray) : Int × Int × Int × Int × List S117 × Bool :=
  if c = 1 then (t', v', b, bt, l, true) else if c = 2 then (t, v, b, bt, l ++ [⟨t', d⟩], true) else (t, v, b, bt, l.take (i - b - 1).toNat, true)
def stepM (t v b bt : Int) (l : List S117) (c t' i v' : Int) (d : ByteArray) : Int × Int × Int × Int × List S117 × Bool :=
  if walOkM t v b bt l = true then
    if recOkM c t' i v' d.size = true ∧ fitM t v b bt l c t' i v' = true then applyM t v b bt l c t' i v' d else (t, v, b, bt, l, false)
  else (0, 0, 0, 0, [], false)
theorem stepM_length (t v b bt : Int) (l : List S117) (c t' i v' : Int) (d : ByteArray) : (stepM t v b bt l c t' i v' d).2.2.2.2.1.length ≤ 61 := by
  unfold stepM
  split
  · rename_i h
    have := (walOkM_len h).1
    split
    · unfold applyM
      split
      · simp only; omega
      · split
        · simp; omega
        · simp only [List.length_take]; omega
    · simp only; omega
  · simp
theorem spec_Fits_run (t v b bt : Int) (l : List S117) (h : walOkM t v b bt l = true) (c t' i v' : Int) (d : ByteArray) : spec_l5Fits.f t v b bt l c t' i v' d = some (fitM t v b bt l c t' i v') := by
  obtain ⟨n1, b0, b1⟩ := walOkM_len h
  unfold spec_l5Fits.f fitM
  by_cases h1 : c = 1
  · rw [if_pos h1, if_pos h1]
    unfold hardFitM
    repeat' split
    all_goals (congr 1; rw [Bool.eq_iff_iff]; simp only [decide_eq_true_eq, beq_iff_eq, true_iff, Bool.false_eq_true, false_iff]; omega)
  · rw [if_neg h1, if_neg h1]
    rw [w64 (n := b + (l.length : Int)) (by omega) (by omega), w64 (n := b + (l.length : Int) + 1) (by omega) (by omega), spec_lastTerm_run _ _ _ _ _ n1]
    simp only [Option.bind_some]
    repeat' split
    all_goals (first | (exfalso; omega) | rfl | (congr 1; rw [Bool.eq_iff_iff]; simp only [decide_eq_true_eq, Bool.false_eq_true, false_iff, true_iff]; omega))
theorem spec_WalStep_f (t v b bt : Int) (l : List S117) (hl : l.length ≤ 1048576) (c t' i v' : Int) (d : ByteArray) (k : Nat) (hk : 1048580 < k) : spec_WalStep.f k t v b bt l c t' i v' d = some (stepM t v b bt l c t' i v' d) := by
  unfold spec_WalStep.f stepM
  rw [spec_WalOk_f _ _ _ _ _ hl _ (by omega)]
  simp only [Option.bind_some]
  by_cases h : walOkM t v b bt l = true
  · obtain ⟨n1, b0, b1⟩ := walOkM_len h
    rw [if_pos h, if_pos h]
    have hc : spec_l5Copy.f t v b bt l = some (t, v, b, bt, l) := by
      unfold spec_l5Copy.f
      simp only [Option.bind_some]
      rw [if_pos (by simp; omega), List.nil_append]
    rw [hc, spec_RecOk_run]; simp only [Option.bind_some]
    obtain ⟨q, rfl⟩ : ∃ m, k = m + 1 := ⟨k - 1, by omega⟩
    by_cases hr : recOkM c t' i v' d.size = true
    · rw [if_pos hr, spec_Fits_run _ _ _ _ _ h]; simp only [Option.bind_some, spec_WalStep.j0]
      by_cases hf : fitM t v b bt l c t' i v' = true
      · have hg : recOkM c t' i v' d.size = true ∧ fitM t v b bt l c t' i v' = true := ⟨hr, hf⟩
        rw [if_neg (by rw [hf]; decide), if_pos hg]
        unfold applyM
        by_cases c1 : c = 1
        · rw [if_pos c1, if_pos c1]
        · rw [if_neg c1, if_neg c1]
          by_cases c2 : c = 2
          · rw [if_pos c2, if_pos c2, if_pos (by omega)]
          · rw [if_neg c2, if_neg c2]
            unfold fitM at hf
            rw [if_neg c1, if_neg c2] at hf
            by_cases c3 : c = 3
            · rw [if_pos c3, decide_eq_true_eq] at hf
              rw [w64 (n := i - b) (by omega) (by omega), w64 (n := i - b - 1) (by omega) (by omega), if_pos (by omega), if_pos (by omega)]
            · rw [if_neg c3] at hf; exact absurd hf (by decide)
      · have hg : ¬ (recOkM c t' i v' d.size = true ∧ fitM t v b bt l c t' i v' = true) := fun g => hf g.2
        rw [if_pos (show (!fitM t v b bt l c t' i v') = true by simpa using hf), if_neg hg]
    · have hg : ¬ (recOkM c t' i v' d.size = true ∧ fitM t v b bt l c t' i v' = true) := fun g => hr g.1
      rw [if_neg hr, if_neg hg]; simp only [spec_WalStep.j0]; rw [if_pos trivial]
  · rw [if_neg h, if_neg h]
theorem impl_WalStep_f (t v b bt : Int) (l : List S117) (hl : l.length ≤ 1048576) (c t' i v' : Int) (d : ByteArray) (k : Nat) (hk : 1048580 < k) : impl_WalStep.f k t v b bt l c t' i v' d = some (stepM t v b bt l c t' i v' d) := by
  unfold impl_WalStep.f stepM
  rw [impl_WalOk_f _ _ _ _ _ hl _ (by omega)]
  simp only [Option.bind_some]
  by_cases h : walOkM t v b bt l = true
  · obtain ⟨n1, b0, b1⟩ := walOkM_len h
    rw [if_pos h, if_pos h]
    have hc : impl_copyWal.f t v b bt l = some (t, v, b, bt, l) := by
      unfold impl_copyWal.f impl_Entry.f
      rw [if_pos (by omega)]; rfl
    rw [hc, impl_RecOk_run]; simp only [Option.bind_some]
    rw [w64 (n := b + (l.length : Int)) (by omega) (by omega), impl_hardFits_run]; simp only [Option.bind_some]
    obtain ⟨p, rfl⟩ : ∃ m, k = m + 1 := ⟨k - 1, by omega⟩
    obtain ⟨q, rfl⟩ : ∃ m, p = m + 1 := ⟨p - 1, by omega⟩
    by_cases hr : recOkM c t' i v' d.size = true
    · rw [if_pos hr]
      unfold fitM applyM
      by_cases c1 : c = 1
      · rw [if_pos c1, if_pos c1, if_pos c1]
        simp only [impl_WalStep.j0]
        by_cases hf : hardFitM t v t' v' = true
        · have hg : recOkM c t' i v' d.size = true ∧ hardFitM t v t' v' = true := ⟨hr, hf⟩
          rw [if_pos hf, if_pos hg]
        · have hg : ¬ (recOkM c t' i v' d.size = true ∧ hardFitM t v t' v' = true) := fun g => hf g.2
          rw [if_neg hf, if_neg hg, if_neg (show ¬ c = 2 by omega)]
          simp only [impl_WalStep.j1]
          rw [if_neg (by decide), if_neg (by omega)]
      · rw [if_neg c1, if_neg c1, if_neg c1]
        simp only [impl_WalStep.j0]
        rw [if_neg (by decide)]
        by_cases c2 : c = 2
        · rw [if_pos c2, if_pos c2, if_pos c2]
          have hj : ∀ z : Bool, impl_WalStep.j1 (q + 1) (b + (l.length : Int)) z t v b bt l c t' i v' d = some (if z = true then (t, v, b, bt, l ++ [(⟨t', d⟩ : S117)], true) else (t, v, b, bt, l, false)) := by
            intro z
            simp only [impl_WalStep.j1]
            by_cases hz : z = true
            · rw [if_pos hz, if_pos hz, if_pos (by omega)]
            · rw [if_neg hz, if_neg hz, if_neg (by omega)]
          rw [w64 (n := b + (l.length : Int) + 1) (by omega) (by omega), impl_lastTerm_run _ _ _ _ _ n1]; simp only [Option.bind_some]
          have hfr : impl_from.f t' (lastM bt l) t = some (decide (lastM bt l ≤ t' ∧ t' ≤ t)) := by
            unfold impl_from.f
            split
            · congr 1; rw [Bool.eq_iff_iff]; simp only [decide_eq_true_eq]; omega
            · congr 1; rw [Bool.eq_iff_iff]; simp only [decide_eq_true_eq, Bool.false_eq_true, false_iff]; omega
          rw [hfr]; simp only [Option.bind_some, hj]
          by_cases e1 : i = b + (l.length : Int) + 1
          · rw [if_pos e1]
            by_cases e2 : (l.length : Int) < 60
            · rw [if_pos e2]
              by_cases e3 : lastM bt l ≤ t' ∧ t' ≤ t
              · have hg : (recOkM c t' i v' d.size = true ∧ decide (i = b + (l.length : Int) + 1 ∧ (l.length : Int) < 60 ∧ lastM bt l ≤ t' ∧ t' ≤ t) = true) := ⟨hr, by simp only [decide_eq_true_eq]; exact ⟨e1, e2, e3⟩⟩
                have hz : decide (lastM bt l ≤ t' ∧ t' ≤ t) = true := by simpa using e3
                rw [if_pos hz, if_pos hg]
              · have hg : ¬ (recOkM c t' i v' d.size = true ∧ decide (i = b + (l.length : Int) + 1 ∧ (l.length : Int) < 60 ∧ lastM bt l ≤ t' ∧ t' ≤ t) = true) := fun g => e3 (by have := g.2; simp only [decide_eq_true_eq] at this; exact this.2.2)
                have hz : ¬ decide (lastM bt l ≤ t' ∧ t' ≤ t) = true := by simpa using e3
                rw [if_neg hz, if_neg hg]
            · have hg : ¬ (recOkM c t' i v' d.size = true ∧ decide (i = b + (l.length : Int) + 1 ∧ (l.length : Int) < 60 ∧ lastM bt l ≤ t' ∧ t' ≤ t) = true) := fun g => e2 (by have := g.2; simp only [decide_eq_true_eq] at this; exact this.2.1)
              rw [if_neg e2, if_neg hg, if_neg (by decide)]
          · have hg : ¬ (recOkM c t' i v' d.size = true ∧ decide (i = b + (l.length : Int) + 1 ∧ (l.length : Int) < 60 ∧ lastM bt l ≤ t' ∧ t' ≤ t) = true) := fun g => e1 (by have := g.2; simp only [decide_eq_true_eq] at this; exact this.1)
            rw [if_neg e1, if_neg hg, if_neg (by decide)]
        · rw [if_neg c2, if_neg c2, if_neg c2]
          simp only [impl_WalStep.j1]
          rw [if_neg (by decide)]
          by_cases c3 : c = 3
          · have hfr : impl_from.f i (wrap64 (b + 1)) (b + (l.length : Int)) = some (decide (b < i ∧ i ≤ b + (l.length : Int))) := by
              rw [w64 (n := b + 1) (by omega) (by omega)]
              unfold impl_from.f
              split
              · congr 1; rw [Bool.eq_iff_iff]; simp only [decide_eq_true_eq]; omega
              · congr 1; rw [Bool.eq_iff_iff]; simp only [decide_eq_true_eq, Bool.false_eq_true, false_iff]; omega
            rw [if_pos c3, if_pos c3, hfr]; simp only [Option.bind_some]
            by_cases e : b < i ∧ i ≤ b + (l.length : Int)
            · have hg : (recOkM c t' i v' d.size = true ∧ decide (b < i ∧ i ≤ b + (l.length : Int)) = true) := ⟨hr, by simpa using e⟩
              have hz : decide (b < i ∧ i ≤ b + (l.length : Int)) = true := by simpa using e
              rw [if_pos hz, if_pos hg, w64 (n := i - b) (by omega) (by omega), w64 (n := i - b - 1) (by omega) (by omega), if_pos (by omega), if_pos (by omega)]
            · have hg : ¬ (recOkM c t' i v' d.size = true ∧ decide (b < i ∧ i ≤ b + (l.length : Int)) = true) := fun g => e (by simpa using g.2)
              have hz : ¬ decide (b < i ∧ i ≤ b + (l.length : Int)) = true := by simpa using e
              rw [if_neg hz, if_neg hg]
          · rw [if_neg c3, if_neg c3, if_neg (show ¬ (recOkM c t' i v' d.size = true ∧ false = true) from fun g => absurd g.2 (by decide))]
    · have hg : ¬ (recOkM c t' i v' d.size = true ∧ fitM t v b bt l c t' i v' = true) := fun g => hr g.1
      rw [if_neg hr, if_neg hg]
  · rw [if_neg h, if_neg h]
theorem laws_heldWal_f (t v b bt : Int) (n : Nat) (m : Int) (h0 : 0 < m) (h1 : m + 2 * n ≤ 1099511627776) (k : Nat) (hk : n + 40 < k) : laws_heldWal.f k t v b bt (marksEntry m n) m = some (m + 2 * n) := by
  unfold laws_heldWal.f; rw [laws_heldEntryS_f n m h0 h1 k hk]; simp only [Option.bind_some]; rw [if_neg (by omega)]

theorem FnExactWalStep (a0_0 : Int) (a0_1 : Int) (a0_2 : Int) (a0_3 : Int) (l0_4 : List S139) (a1_0 : Int) (a1_1 : Int) (a1_2 : Int) (a1_3 : Int) (a1_4 : ByteArray) (w0_0 : (Lit.int .i64 a0_0).wf = true) (w0_1 : (Lit.int .i64 a0_1).wf = true) (w0_2 : (Lit.int .i64 a0_2).wf = true) (w0_3 : (Lit.int .i64 a0_3).wf = true) (m0_4 : l0_4.length ≤ maxLen) (g0_4 : ∀ z ∈ l0_4, (Lit.int .i64 z.f0).wf = true ∧ z.f1.size ≤ maxLen) (w1_0 : (Lit.int .i64 a1_0).wf = true) (w1_1 : (Lit.int .i64 a1_1).wf = true) (w1_2 : (Lit.int .i64 a1_2).wf = true) (w1_3 : (Lit.int .i64 a1_3).wf = true) (w1_4 : a1_4.size ≤ maxLen) : ∃ k, laws_FnExactWalStep.f k a0_0 a0_1 a0_2 a0_3 l0_4 a1_0 a1_1 a1_2 a1_3 a1_4 = some true := by
  refine ⟨1048700, ?_⟩
  unfold laws_FnExactWalStep.f
  obtain ⟨r, e, r0, r1, r2⟩ := laws_szWal_f a0_0 a0_1 a0_2 a0_3 l0_4 1048576 m0_4 (fun x hx => (g0_4 x hx).2) (by omega) (by omega) 1048700 (by omega)
  rw [e]; simp only [Option.bind_some]
  by_cases hr : r < 0
  · rw [if_pos hr]
  · rw [if_neg hr]
    obtain ⟨s, f⟩ : ∃ s, laws_szRec.f a1_0 a1_1 a1_2 a1_3 a1_4 r = some s := by
      unfold laws_szRec.f; split <;> exact ⟨_, rfl⟩
    rw [f]; simp only [Option.bind_some]
    by_cases hs : s < 0
    · rw [if_pos hs]
    · rw [if_neg hs]
      obtain ⟨hl, _⟩ := r2 (by omega)
      have hm : (l0_4.map cvEntry).length ≤ 1048576 := by rw [List.length_map]; exact hl
      have t1 : ∀ k, 1048577 < k → laws_toWal.f k a0_0 a0_1 a0_2 a0_3 l0_4 = some (a0_0, a0_1, a0_2, a0_3, l0_4.map cvEntry) := fun k hk => laws_toWal_f _ _ _ _ _ hl _ hk
      have t2 : laws_toRec.f a1_0 a1_1 a1_2 a1_3 a1_4 = some (a1_0, a1_1, a1_2, a1_3, a1_4) := rfl
      have u1 := stepM_length a0_0 a0_1 a0_2 a0_3 (l0_4.map cvEntry) a1_0 a1_1 a1_2 a1_3 a1_4
      have i1 : ∀ k, 1048580 < k → impl_WalStep.f k a0_0 a0_1 a0_2 a0_3 (l0_4.map cvEntry) a1_0 a1_1 a1_2 a1_3 a1_4 = some (stepM a0_0 a0_1 a0_2 a0_3 (l0_4.map cvEntry) a1_0 a1_1 a1_2 a1_3 a1_4) := fun k hk => impl_WalStep_f _ _ _ _ _ hm _ _ _ _ _ _ hk
      rw [t1 _ (by omega), t2]; simp only [Option.bind_some]
      rw [spec_WalStep_f _ _ _ _ _ hm _ _ _ _ _ _ (by omega), i1 _ (by omega)]
      generalize stepM a0_0 a0_1 a0_2 a0_3 (l0_4.map cvEntry) a1_0 a1_1 a1_2 a1_3 a1_4 = c at u1 i1
      simp only [Option.bind_some]
      rw [laws_eqWal_f _ _ _ _ c.2.2.2.2.1 (by omega) _ (by omega)]; simp only [Option.bind_some]
      rw [if_pos trivial, bne_self_eq_false]
      obtain ⟨q, hq⟩ : ∃ m, (1048700 : Nat) = m + 1 := ⟨1048699, rfl⟩
      rw [hq]
      simp only [laws_FnExactWalStep.j0]
      rw [if_neg (by decide), t1 q (by omega)]; simp only [Option.bind_some]
      rw [laws_eqWal_f _ _ _ _ _ hm q (by omega)]; simp only [Option.bind_some]
      rw [if_pos trivial, laws_markWal_f _ _ _ _ _ 1 (by omega) (by omega) q (by omega)]; simp only [Option.bind_some]
      rw [if_neg (by omega), laws_eqWal_f _ _ _ _ c.2.2.2.2.1 (by omega) q (by omega)]; simp only [Option.bind_some]
      rw [if_pos trivial, bne_self_eq_false]
      obtain ⟨p, rfl⟩ : ∃ m, q = m + 1 := ⟨q - 1, by omega⟩
      simp only [laws_FnExactWalStep.j1]
      rw [if_neg (by decide), laws_markWal_f _ _ _ _ c.2.2.2.2.1 1 (by omega) (by omega) p (by omega)]; simp only [Option.bind_some]
      rw [laws_heldWal_f _ _ _ _ _ 1 (by omega) (by omega) p (by omega)]; simp only [Option.bind_some]
      rw [if_neg (by omega), if_pos trivial, t1 p (by omega), t2]; simp only [Option.bind_some]
      rw [i1 p (by omega)]; simp only [Option.bind_some]
      rw [laws_eqWal_f _ _ _ _ c.2.2.2.2.1 (by omega) p (by omega)]; simp only [Option.bind_some]
      rw [if_pos trivial, bne_self_eq_false]
      obtain ⟨o, rfl⟩ : ∃ m, p = m + 1 := ⟨p - 1, by omega⟩
      simp only [laws_FnExactWalStep.j2]
      rw [if_neg (by decide), laws_heldWal_f _ _ _ _ _ 1 (by omega) (by omega) o (by omega)]; simp only [Option.bind_some]
      rw [if_neg (by omega), if_pos trivial]

end Go.Proofs.Ytfmddjbekophnaa.Pure
