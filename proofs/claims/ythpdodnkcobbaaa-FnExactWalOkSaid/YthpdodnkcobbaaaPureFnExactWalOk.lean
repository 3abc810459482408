/- FnExactWalOk: for every log the program's WalOk returns what the reference's returns, and changes nothing of it. -/
import Derived.Test.YthpdodnkcobbaaaPFnExactWalOkx1
import Derived.Test.YthpdodnkcobbaaaPFnExactWalOkx2
import Derived.Test.YthpdodnkcobbaaaPFnExactWalOkx3
import Derived.Test.YthpdodnkcobbaaaBase
import Derived.Test.YthpdodnkcobbaaaNum
import Derived.Test.YthpdodnkcobbaaaNumRec
namespace Go.Proofs.Ythpdodnkcobbaaa.Pure
open Go.RowKit Go.Proofs.Ythpdodnkcobbaaa.PFnExactWalOk Go.Proofs.YthpdodnkcobbaaaW.PrintWords Go.Proofs.YthpdodnkcobbaaaW.PrintLast Go.Proofs.YthpdodnkcobbaaaW.PrintMore Go.Proofs.Ythpdodnkcobbaaa.Base
set_option linter.unusedVariables false
set_option linter.unusedSimpArgs false

/-! ranges -/
theorem spec_l1In_run (a b c : Int) : spec_l1In.f a b c = some (decide (b ≤ a ∧ a ≤ c)) := by
  unfold spec_l1In.f
  by_cases h : a ≥ b
  · rw [if_pos h]; congr 1; simp [show b ≤ a from h]
  · rw [if_neg h]; congr 1; simp; omega

theorem impl_from_run (a b c : Int) : impl_from.f a b c = some (decide (b ≤ a ∧ a ≤ c)) := by
  unfold impl_from.f
  by_cases h : a ≥ b
  · rw [if_pos h]; congr 1; simp [show b ≤ a from h]
  · rw [if_neg h]; congr 1; simp; omega

/-! RecOk -/
theorem spec_l5Based_run (i t : Int) : spec_l5Based.f i t = some (placeM i t) := by
  unfold spec_l5Based.f placeM
  simp only [spec_l1In_run, Option.bind_some, decide_eq_true_eq]
  repeat' split
  all_goals (congr 1; rw [Bool.eq_iff_iff]; simp only [decide_eq_true_eq, Bool.and_eq_true, beq_iff_eq, true_iff, Bool.false_eq_true, false_iff, iff_true, iff_false]; omega)

theorem impl_isTerm_run (a : Int) : impl_isTerm.f a = some (decide (1 ≤ a ∧ a ≤ 100000)) := by
  unfold impl_isTerm.f; rw [impl_from_run]; rfl
theorem impl_isVote_run (a : Int) : impl_isVote.f a = some (decide (-1 ≤ a ∧ a ≤ 4)) := by
  unfold impl_isVote.f; rw [impl_from_run]; rfl
theorem impl_isPlace_run (i t : Int) : impl_isPlace.f i t = some (placeM i t) := by
  unfold impl_isPlace.f placeM
  simp only [impl_from_run, impl_isTerm_run, Option.bind_some, decide_eq_true_eq]
  repeat' split
  all_goals (congr 1; rw [Bool.eq_iff_iff]; simp only [decide_eq_true_eq, Bool.and_eq_true, beq_iff_eq, true_iff, Bool.false_eq_true, false_iff, iff_true, iff_false]; omega)

theorem rdA98 (a : List S98) (x : S98) (b : List S98) : rd_T98 (a ++ x :: b) (a.length : Int) = x := by simp [rd_T98, List.getD]
theorem setA98 (a : List S98) (x y : S98) (b : List S98) : (a ++ x :: b).set ((a.length : Int)).toNat y = a ++ y :: b := by
  rw [show ((a.length : Int)).toNat = a.length by omega, List.set_append_right _ _ (Nat.le_refl _), Nat.sub_self, List.set_cons_zero]
theorem rdA81 (a : List S81) (x : S81) (b : List S81) : rd_T81 (a ++ x :: b) (a.length : Int) = x := by simp [rd_T81, List.getD]
theorem setA81 (a : List S81) (x y : S81) (b : List S81) : (a ++ x :: b).set ((a.length : Int)).toNat y = a ++ y :: b := by
  rw [show ((a.length : Int)).toNat = a.length by omega, List.set_append_right _ _ (Nat.le_refl _), Nat.sub_self, List.set_cons_zero]
theorem laws_szEntry_f (a0 : Int) (a1 : ByteArray) (left : Int) (h1 : a1.size ≤ maxLen) (l0 : 0 ≤ left) (l1 : left ≤ 1048576) : ∃ r, laws_szEntry.f a0 a1 left = some r ∧ -1 ≤ r ∧ r ≤ left ∧ (0 ≤ r → 0 ≤ left ∧ (a1.size : Int) ≤ left) := by
  unfold laws_szEntry.f
  unfold maxLen at h1
  have e1 : wrap64 (left - (a1.size : Int)) = left - (a1.size : Int) := w64 (by omega) (by omega)
  simp only [e1]
  by_cases g1 : left - (a1.size : Int) < 0
  · rw [if_pos g1]; exact ⟨-1, rfl, by omega, by omega, fun h => by omega⟩
  · rw [if_neg g1]
    exact ⟨_, rfl, by omega, by omega, fun h => by omega⟩
theorem laws_szEntryS_run : ∀ (b a : List S98) (k : Nat) (left : Int), a.length + b.length ≤ 1048576 → (∀ x ∈ b, x.f1.size ≤ maxLen) → 0 ≤ left → left ≤ 1048576 → b.length < k →
    ∃ r, laws_szEntryS.l0 k (a ++ b) left (a.length : Int) = some r ∧ -1 ≤ r ∧ r ≤ left ∧ (0 ≤ r → ∀ x ∈ b, (x.f1.size : Int) ≤ left) := by
  intro b
  induction b with
  | nil =>
    intro a k left h0 hg l0 l1 hk
    obtain ⟨q, rfl⟩ : ∃ m, k = m + 1 := ⟨k - 1, by omega⟩
    simp only [laws_szEntryS.l0]
    rw [if_neg (by simp)]
    exact ⟨left, rfl, by omega, by omega, fun _ x hx => by simp at hx⟩
  | cons x b ih =>
    intro a k left h0 hg l0 l1 hk
    simp only [List.length_cons] at h0 hk
    obtain ⟨q, rfl⟩ : ∃ m, k = m + 1 := ⟨k - 1, by omega⟩
    simp only [laws_szEntryS.l0]
    rw [if_pos (by simp; omega), if_pos (by omega), rdA98]
    have hgx := hg x (List.mem_cons_self)
    obtain ⟨r, e, r0, r1, r2⟩ := laws_szEntry_f x.f0 x.f1 left hgx l0 l1
    rw [e]; simp only [Option.bind_some]
    by_cases hr : r < 0
    · rw [if_pos hr]; exact ⟨-1, rfl, by omega, by omega, fun h => by omega⟩
    · rw [if_neg hr, w64 (n := (a.length : Int) + 1) (by omega) (by omega)]
      obtain ⟨s, f, s0, s1, s2⟩ := ih (a ++ [x]) q r (by simp; omega) (fun y hy => hg y (List.mem_cons_of_mem _ hy)) (by omega) (by omega) (by omega)
      rw [List.append_assoc, List.singleton_append, show (((a ++ [x]).length : Nat) : Int) = (a.length : Int) + 1 by simp] at f
      refine ⟨s, f, s0, by omega, fun hs y hy => ?_⟩
      have r3 := r2 (by omega)
      rcases List.mem_cons.1 hy with rfl | hy
      · omega
      · have := s2 hs y hy
        omega
theorem laws_szEntryS_f (l : List S98) (left : Int) (hl : l.length ≤ maxLen) (hg : ∀ x ∈ l, x.f1.size ≤ maxLen) (l0 : 0 ≤ left) (l1 : left ≤ 1048576) (k : Nat) (hk : 1048577 < k) :
    ∃ r, laws_szEntryS.f k l left = some r ∧ -1 ≤ r ∧ r ≤ left ∧ (0 ≤ r → l.length ≤ 1048576 ∧ ∀ x ∈ l, x.f1.size ≤ 1048576) := by
  unfold laws_szEntryS.f maxLen at *
  rw [w64 (n := left - (l.length : Int)) (by omega) (by omega)]
  by_cases h : left - (l.length : Int) < 0
  · rw [if_pos h]; exact ⟨-1, rfl, by omega, by omega, fun h => by omega⟩
  · rw [if_neg h]
    obtain ⟨r, e, r0, r1, r2⟩ := laws_szEntryS_run l [] k (left - (l.length : Int)) (by simp; omega) (fun x hx => by have := hg x hx; (unfold maxLen; exact this)) (by omega) (by omega) (by omega)
    refine ⟨r, by simpa using e, r0, by omega, fun hr => ⟨by omega, fun x hx => ?_⟩⟩
    have := r2 hr x hx
    omega
def cvEntry (x : S98) : S81 := ⟨x.f0, x.f1⟩
theorem laws_toEntryS_run : ∀ (b a : List S98) (k : Nat), a.length + b.length ≤ 1048576 → b.length < k →
    laws_toEntryS.l0 k (a ++ b) (a.map cvEntry ++ List.replicate b.length z81) (a.length : Int) = some ((a ++ b).map cvEntry) := by
  intro b
  induction b with
  | nil =>
    intro a k h0 hk
    obtain ⟨q, rfl⟩ : ∃ m, k = m + 1 := ⟨k - 1, by omega⟩
    simp only [laws_toEntryS.l0]
    rw [if_neg (by simp)]; simp
  | cons x b ih =>
    intro a k h0 hk
    simp only [List.length_cons] at h0 hk
    obtain ⟨q, rfl⟩ : ∃ m, k = m + 1 := ⟨k - 1, by omega⟩
    simp only [laws_toEntryS.l0]
    rw [if_pos (by simp; omega), if_pos (by omega), rdA98]
    simp only [laws_toEntry.f, Option.bind_some]
    rw [if_pos (by simp; omega), w64 (n := (a.length : Int) + 1) (by omega) (by omega), List.length_cons, List.replicate_succ]
    have hs := setA81 (a.map cvEntry) z81 (cvEntry x) (List.replicate b.length z81)
    rw [List.length_map] at hs
    rw [show (⟨x.f0, x.f1⟩ : S81) = cvEntry x from rfl, hs]
    have f := ih (a ++ [x]) q (by simp; omega) (by omega)
    rw [List.append_assoc, List.singleton_append, show (((a ++ [x]).length : Nat) : Int) = (a.length : Int) + 1 by simp, List.map_append, List.map_singleton, List.append_assoc, List.singleton_append] at f
    exact f
theorem laws_toEntryS_f (l : List S98) (hl : l.length ≤ 1048576) (k : Nat) (hk : l.length < k) : laws_toEntryS.f k l = some (l.map cvEntry) := by
  unfold laws_toEntryS.f
  rw [if_pos (by omega), show ((l.length : Int)).toNat = l.length by omega, if_pos (by omega)]
  have := laws_toEntryS_run l [] k (by simp; omega) hk
  simpa using this
theorem laws_eqEntry_f (a0 : Int) (a1 : ByteArray) : laws_eqEntry.f a0 a1 a0 a1 = some true := by unfold laws_eqEntry.f; simp
theorem laws_eqEntryS_run (l : List S81) (hl : l.length ≤ 1099511627776) : ∀ (d k : Nat) (i : Int), 0 ≤ i → i + d = l.length → d < k → laws_eqEntryS.l0 k l l i = some true := by
  intro d
  induction d with
  | zero =>
    intro k i h0 h1 hk
    obtain ⟨q, rfl⟩ : ∃ m, k = m + 1 := ⟨k - 1, by omega⟩
    simp only [laws_eqEntryS.l0]; rw [if_neg (by omega)]
  | succ d ih =>
    intro k i h0 h1 hk
    obtain ⟨q, rfl⟩ : ∃ m, k = m + 1 := ⟨k - 1, by omega⟩
    simp only [laws_eqEntryS.l0]
    rw [if_pos (by omega), if_pos h0, if_pos (by omega), laws_eqEntry_f, w64 (n := i + 1) (by omega) (by omega)]
    simp only [Option.bind_some]
    rw [if_pos trivial, ih q (i + 1) (by omega) (by omega) (by omega)]
theorem laws_eqEntryS_f (l : List S81) (hl : l.length ≤ 1099511627776) (k : Nat) (hk : l.length < k) : laws_eqEntryS.f k l l = some true := by
  unfold laws_eqEntryS.f; rw [if_pos rfl]; exact laws_eqEntryS_run l hl l.length k 0 (by omega) (by omega) hk

/-! WalOk -/
def termsM : Int → Int → List S81 → Bool
  | _, _, [] => true
  | low, hi, e :: r => decide (1 ≤ e.f0 ∧ low ≤ e.f0 ∧ e.f0 ≤ hi ∧ e.f1.size ≤ 900) && termsM e.f0 hi r
def walOkM (t v b bt : Int) (l : List S81) : Bool := decide (0 ≤ t ∧ t ≤ 100000 ∧ -1 ≤ v ∧ v ≤ 4 ∧ placeM b bt = true ∧ bt ≤ t ∧ l.length ≤ 60 ∧ b + l.length ≤ 100000) && termsM bt t l

theorem spec_WalOk_run (t v bs bt : Int) : ∀ (b a : List S81) (k : Nat) (low : Int), a.length + b.length ≤ 1048576 → b.length < k →
    spec_WalOk.l0 k low (a.length : Int) t v bs bt (a ++ b) = some (termsM low t b) := by
  intro b
  induction b with
  | nil =>
    intro a k low h0 hk
    obtain ⟨q, rfl⟩ : ∃ m, k = m + 1 := ⟨k - 1, by omega⟩
    simp only [spec_WalOk.l0]; rw [if_neg (by simp)]; rfl
  | cons x b ih =>
    intro a k low h0 hk
    simp only [List.length_cons] at h0 hk
    obtain ⟨q, rfl⟩ : ∃ m, k = m + 1 := ⟨k - 1, by omega⟩
    have f := ih (a ++ [x]) q x.f0 (by simp; omega) (by omega)
    rw [List.append_assoc, List.singleton_append, show (((a ++ [x]).length : Nat) : Int) = (a.length : Int) + 1 by simp] at f
    simp only [spec_WalOk.l0, rdA81, termsM]
    rw [if_pos (by simp; omega), if_pos (by omega), w64 (n := (a.length : Int) + 1) (by omega) (by omega), f]
    by_cases h : 1 ≤ x.f0 ∧ low ≤ x.f0 ∧ x.f0 ≤ t ∧ x.f1.size ≤ 900
    · rw [if_neg (by omega), if_neg (by omega), if_neg (by omega), if_neg (by omega), decide_eq_true h, Bool.true_and]
    · rw [decide_eq_false h, Bool.false_and]
      repeat' split
      all_goals (first | rfl | (exfalso; omega))

theorem spec_WalOk_f (t v b bt : Int) (l : List S81) (hl : l.length ≤ 1048576) (k : Nat) (hk : 1048578 < k) : spec_WalOk.f k t v b bt l = some (walOkM t v b bt l) := by
  obtain ⟨q, rfl⟩ : ∃ m, k = m + 1 := ⟨k - 1, by omega⟩
  have f := spec_WalOk_run t v b bt l [] q bt (by simp; omega) (by omega)
  simp only [List.nil_append, List.length_nil] at f
  unfold spec_WalOk.f walOkM
  simp only [spec_l1In_run, spec_l5Based_run, Option.bind_some, decide_eq_true_eq, spec_WalOk.j0]
  by_cases h1 : 0 ≤ t ∧ t ≤ 100000
  · rw [if_pos h1]
    by_cases h2 : -1 ≤ v ∧ v ≤ 4
    · rw [if_pos h2]
      by_cases h3 : placeM b bt = true
      · have hb : 0 ≤ b ∧ b ≤ 100000 := by unfold placeM at h3; simp only [decide_eq_true_eq] at h3; omega
        rw [if_pos h3]
        by_cases h4 : bt > t
        · rw [if_pos h4, if_pos trivial, decide_eq_false (by omega), Bool.false_and]
        · rw [if_neg h4]
          by_cases h5 : (l.length : Int) > 60
          · rw [if_pos h5, if_pos trivial, decide_eq_false (by omega), Bool.false_and]
          · rw [if_neg h5, w64 (by omega) (by omega)]
            by_cases h6 : b + (l.length : Int) > 100000
            · rw [if_pos h6, decide_eq_false (by omega), Bool.false_and]
            · rw [if_neg h6, decide_eq_true ⟨h1.1, h1.2, h2.1, h2.2, h3, by omega, by omega, by omega⟩, Bool.true_and]
              exact f
      · rw [if_neg h3, if_pos trivial, decide_eq_false (fun g => h3 g.2.2.2.2.1), Bool.false_and]
    · rw [if_neg h2, if_pos trivial, decide_eq_false (fun g => h2 ⟨g.2.2.1, g.2.2.2.1⟩), Bool.false_and]
  · rw [if_neg h1, if_pos trivial, decide_eq_false (fun g => h1 ⟨g.1, g.2.1⟩), Bool.false_and]

theorem impl_termsOk_run (hi : Int) : ∀ (b a : List S81) (k : Nat) (low : Int), a.length + b.length ≤ 1048576 → b.length < k →
    impl_termsOk.l0 k low hi (a ++ b) ((a ++ b).length : Int) (a.length : Int) = some (termsM low hi b) := by
  intro b
  induction b with
  | nil =>
    intro a k low h0 hk
    obtain ⟨q, rfl⟩ : ∃ m, k = m + 1 := ⟨k - 1, by omega⟩
    simp only [impl_termsOk.l0]; rw [if_neg (by simp)]; rfl
  | cons x b ih =>
    intro a k low h0 hk
    simp only [List.length_cons] at h0 hk
    obtain ⟨q, rfl⟩ : ∃ m, k = m + 1 := ⟨k - 1, by omega⟩
    have f := ih (a ++ [x]) q x.f0 (by simp; omega) (by omega)
    rw [List.append_assoc, List.singleton_append, show (((a ++ [x]).length : Nat) : Int) = (a.length : Int) + 1 by simp] at f
    simp only [impl_termsOk.l0, rdA81, termsM, impl_from_run, Option.bind_some, decide_eq_true_eq]
    rw [if_pos (by simp; omega), if_pos (by omega), if_pos (by simp; omega), w64 (n := (a.length : Int) + 1) (by omega) (by omega), f]
    by_cases h : 1 ≤ x.f0 ∧ low ≤ x.f0 ∧ x.f0 ≤ hi ∧ x.f1.size ≤ 900
    · rw [if_neg (by omega), if_pos (by omega), if_neg (by omega), decide_eq_true h, Bool.true_and]
    · rw [decide_eq_false h, Bool.false_and]
      repeat' split
      all_goals (first | rfl | (exfalso; omega))
theorem impl_WalOk_f (t v b bt : Int) (l : List S81) (hl : l.length ≤ 1048576) (k : Nat) (hk : 1048578 < k) : impl_WalOk.f k t v b bt l = some (walOkM t v b bt l) := by
  have f := impl_termsOk_run t l [] k bt (by simp; omega) (by omega)
  simp only [List.nil_append, List.length_nil] at f
  unfold impl_WalOk.f walOkM impl_termsOk.f
  rw [show ((0 : Nat) : Int) = 0 from rfl] at f
  simp only [impl_from_run, impl_isVote_run, impl_isPlace_run, Option.bind_some, decide_eq_true_eq, f]
  by_cases h1 : 0 ≤ t ∧ t ≤ 100000
  · rw [if_pos h1]
    by_cases h2 : -1 ≤ v ∧ v ≤ 4
    · rw [if_pos h2]
      by_cases h3 : placeM b bt = true
      · have hb : 0 ≤ b ∧ b ≤ 100000 := by unfold placeM at h3; simp only [decide_eq_true_eq] at h3; omega
        rw [if_pos h3]
        by_cases h4 : bt ≤ t
        · rw [if_pos h4]
          by_cases h5 : (l.length : Int) ≤ 60
          · rw [if_pos h5, w64 (by omega) (by omega)]
            by_cases h6 : b + (l.length : Int) ≤ 100000
            · rw [decide_eq_true h6, decide_eq_true ⟨h1.1, h1.2, h2.1, h2.2, h3, h4, by omega, h6⟩, Bool.true_and]
              cases termsM bt t l <;> simp
            · rw [decide_eq_false h6, decide_eq_false (fun g => h6 g.2.2.2.2.2.2.2), Bool.false_and]
              cases termsM bt t l <;> simp
          · rw [if_neg h5, decide_eq_false (by omega), Bool.false_and]
        · rw [if_neg h4, decide_eq_false (by omega), Bool.false_and]
      · rw [if_neg h3, decide_eq_false (fun g => h3 g.2.2.2.2.1), Bool.false_and]
    · rw [if_neg h2, decide_eq_false (fun g => h2 ⟨g.2.2.1, g.2.2.2.1⟩), Bool.false_and]
  · rw [if_neg h1, decide_eq_false (fun g => h1 ⟨g.1, g.2.1⟩), Bool.false_and]

/-! the laws' own functions of a Wal -/
theorem laws_szWal_f (t v b bt : Int) (l : List S98) (left : Int) (hl : l.length ≤ maxLen) (hg : ∀ x ∈ l, x.f1.size ≤ maxLen) (l0 : 0 ≤ left) (l1 : left ≤ 1048576) (k : Nat) (hk : 1048577 < k) :
    ∃ r, laws_szWal.f k t v b bt l left = some r ∧ -1 ≤ r ∧ r ≤ left ∧ (0 ≤ r → l.length ≤ 1048576 ∧ ∀ x ∈ l, x.f1.size ≤ 1048576) := by
  obtain ⟨r, e, r0, r1, r2⟩ := laws_szEntryS_f l left hl hg l0 l1 k hk
  unfold laws_szWal.f
  rw [e]; simp only [Option.bind_some]
  split
  · exact ⟨-1, rfl, by omega, by omega, fun h => by omega⟩
  · exact ⟨r, rfl, r0, r1, r2⟩
theorem laws_toWal_f (t v b bt : Int) (l : List S98) (hl : l.length ≤ 1048576) (k : Nat) (hk : 1048577 < k) : laws_toWal.f k t v b bt l = some (t, v, b, bt, l.map cvEntry) := by
  unfold laws_toWal.f; rw [laws_toEntryS_f l hl k (by omega)]; rfl
theorem laws_eqWal_f (t v b bt : Int) (l : List S81) (hl : l.length ≤ 1048576) (k : Nat) (hk : 1048577 < k) : laws_eqWal.f k t v b bt l t v b bt l = some true := by
  unfold laws_eqWal.f; rw [laws_eqEntryS_f l (by omega) k (by omega)]; simp

theorem FnExactWalOk (a0_0 : Int) (a0_1 : Int) (a0_2 : Int) (a0_3 : Int) (l0_4 : List S98) (w0_0 : (Lit.int .i64 a0_0).wf = true) (w0_1 : (Lit.int .i64 a0_1).wf = true) (w0_2 : (Lit.int .i64 a0_2).wf = true) (w0_3 : (Lit.int .i64 a0_3).wf = true) (m0_4 : l0_4.length ≤ maxLen) (g0_4 : ∀ z ∈ l0_4, (Lit.int .i64 z.f0).wf = true ∧ z.f1.size ≤ maxLen) : ∃ k, laws_FnExactWalOk.f k a0_0 a0_1 a0_2 a0_3 l0_4 = some true := by
  refine ⟨1048600, ?_⟩
  unfold laws_FnExactWalOk.f
  obtain ⟨r, e, r0, r1, r2⟩ := laws_szWal_f a0_0 a0_1 a0_2 a0_3 l0_4 1048576 m0_4 (fun x hx => (g0_4 x hx).2) (by omega) (by omega) 1048600 (by omega)
  rw [e]; simp only [Option.bind_some]
  split
  · rfl
  · obtain ⟨hl, hs⟩ := r2 (by omega)
    have hm : (l0_4.map cvEntry).length ≤ 1048576 := by rw [List.length_map]; exact hl
    rw [laws_toWal_f _ _ _ _ _ hl _ (by omega)]
    simp only [Option.bind_some]
    rw [spec_WalOk_f _ _ _ _ _ hm _ (by omega), impl_WalOk_f _ _ _ _ _ hm _ (by omega)]
    simp only [Option.bind_some, bne_self_eq_false]
    rw [if_neg (by decide), laws_eqWal_f _ _ _ _ _ hm _ (by omega)]
    rfl

end Go.Proofs.Ythpdodnkcobbaaa.Pure
