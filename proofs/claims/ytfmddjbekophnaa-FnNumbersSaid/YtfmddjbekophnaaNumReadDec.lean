/- Plain mathematics of reading a decimal text, in two ways. No condition. -/
import Derived.Test.YtfmddjbekophnaaNumDec
namespace Go.Proofs.Ytfmddjbekophnaa.Base
open Go.RowKit Go.Proofs.YtfmddjbekophnaaW.PrintWords Go.Proofs.YtfmddjbekophnaaW.PrintLast Go.Proofs.YtfmddjbekophnaaW.PrintMore
set_option linter.unusedVariables false
set_option linter.unusedSimpArgs false

def chk (v : Int) (l : List Int) : Int × Bool := if decM v = l then (v, true) else (0, false)
theorem chk_of {v : Int} {l : List Int} (h : decM v = l) : chk v l = (v, true) := by unfold chk; rw [if_pos h]
theorem chk_true {u v : Int} {l : List Int} (h : chk v l = (u, true)) : u = v ∧ l = decM v := by
  unfold chk at h
  by_cases g : decM v = l
  · rw [if_pos g] at h; exact ⟨by simpa using (congrArg Prod.fst h).symm, g.symm⟩
  · rw [if_neg g] at h; simp at h
theorem chk_false {v : Int} {l : List Int} (h : (chk v l).2 = false) : chk v l = (0, false) := by
  unfold chk at h ⊢
  by_cases g : decM v = l
  · rw [if_pos g] at h; simp at h
  · rw [if_neg g]

def rdS (l : List Int) : Int × Bool :=
  if cntD (l.take 11) > 9 then (0, false) else if l.length > 10 then (0, false) else chk (if l.head? = some 45 then -valD (l.take 11) else valD (l.take 11)) l

def tlI (l : List Int) : List Int := if l.head? = some 45 then l.tail else l
def rdI (l : List Int) : Int × Bool :=
  if tlI l = [] ∨ (tlI l).length > 9 then (0, false) else if (tlI l).all isD = true then
    chk (if (tlI l).length < l.length then -valD (tlI l) else valD (tlI l)) l
  else (0, false)

theorem rdS_of {v : Int} (h0 : -1000000000 < v) (h1 : v < 1000000000) : rdS (decM v) = (v, true) := by
  obtain ⟨c0, c1, c2⟩ := decM_cnt v h0 h1
  unfold rdS
  rw [List.take_of_length_le (by omega), if_neg (by omega), if_neg (by omega), decM_val]
  have hh := decM_head v
  by_cases h : v < 0
  · rw [if_pos (hh.2 h), if_pos h, Int.neg_neg]; exact chk_of rfl
  · rw [if_neg (fun e => h (hh.1 e)), if_neg h]; exact chk_of rfl

theorem rdS_to {l : List Int} {v : Int} (h : rdS l = (v, true)) : -1000000000 < v ∧ v < 1000000000 ∧ l = decM v := by
  unfold rdS at h
  by_cases h1 : cntD (l.take 11) > 9
  · rw [if_pos h1] at h; simp at h
  · rw [if_neg h1] at h
    by_cases h2 : l.length > 10
    · rw [if_pos h2] at h; simp at h
    · rw [if_neg h2] at h
      have b0 := valD_nonneg (l.take 11)
      have b1 := valD_bound (l.take 11)
      have b2 : (10 : Int) ^ (cntD (l.take 11)).toNat ≤ 1000000000 := by
        have hc : (cntD (l.take 11)).toNat ≤ 9 := by omega
        obtain ⟨c, hc2⟩ : ∃ c, (cntD (l.take 11)).toNat = c := ⟨_, rfl⟩
        rw [hc2] at hc ⊢
        have : c = 0 ∨ c = 1 ∨ c = 2 ∨ c = 3 ∨ c = 4 ∨ c = 5 ∨ c = 6 ∨ c = 7 ∨ c = 8 ∨ c = 9 := by omega
        rcases this with rfl | rfl | rfl | rfl | rfl | rfl | rfl | rfl | rfl | rfl <;> decide
      obtain ⟨hv, hl⟩ := chk_true h
      refine ⟨?_, ?_, by rw [hv]; exact hl⟩ <;> rw [hv] <;> split <;> omega

theorem rdI_of {v : Int} (h0 : -1000000000 < v) (h1 : v < 1000000000) : rdI (decM v) = (v, true) := by
  obtain ⟨c0, c1, c2⟩ := decM_cnt v h0 h1
  have hh := decM_head v
  unfold rdI tlI
  by_cases h : v < 0
  · have e : decM v = 45 :: decN (-v).toNat := by unfold decM; rw [if_pos h]
    rw [if_pos (hh.2 h)]
    rw [e] at c1 ⊢
    rw [List.tail_cons]
    rw [if_neg (by
      rintro (h2 | h2)
      · exact decN_ne _ h2
      · simp at c1; omega), if_pos (by
      rw [List.all_eq_true]; intro x hx; have := decN_digits _ x hx; simp [isD]; omega), if_pos (by simp), valD_decN]
    have e2 : -(((-v).toNat : Nat) : Int) = v := by omega
    rw [e2]; exact chk_of e
  · have e : decM v = decN v.toNat := by unfold decM; rw [if_neg h]
    have c3 := c2 (by omega)
    rw [if_neg (fun g => h (hh.1 g))]
    rw [e] at c3 ⊢
    rw [if_neg (by
      rintro (h2 | h2)
      · exact decN_ne _ h2
      · omega), if_pos (by
      rw [List.all_eq_true]; intro x hx; have := decN_digits _ x hx; simp [isD]; omega), if_neg (by omega), valD_decN]
    have e2 : ((v.toNat : Nat) : Int) = v := by omega
    rw [e2]; exact chk_of e

theorem rdI_to {l : List Int} {v : Int} (h : rdI l = (v, true)) : -1000000000 < v ∧ v < 1000000000 ∧ l = decM v := by
  unfold rdI at h
  split at h
  · simp at h
  · rename_i h1
    split at h
    · rename_i h2
      have b0 := valD_nonneg (tlI l)
      have b1 := valD_bound (tlI l)
      have b3 : (cntD (tlI l)).toNat ≤ 9 := by
        have : cntD (tlI l) ≤ (tlI l).length := by unfold cntD; have := List.length_filter_le isD (tlI l); omega
        have h4 : ¬ (tlI l).length > 9 := fun h4 => h1 (.inr h4)
        omega
      have b2 : (10 : Int) ^ (cntD (tlI l)).toNat ≤ 1000000000 := by
        obtain ⟨c, hc2⟩ : ∃ c, (cntD (tlI l)).toNat = c := ⟨_, rfl⟩
        rw [hc2] at b3 ⊢
        have : c = 0 ∨ c = 1 ∨ c = 2 ∨ c = 3 ∨ c = 4 ∨ c = 5 ∨ c = 6 ∨ c = 7 ∨ c = 8 ∨ c = 9 := by omega
        rcases this with rfl | rfl | rfl | rfl | rfl | rfl | rfl | rfl | rfl | rfl <;> decide
      obtain ⟨hv, hl⟩ := chk_true h
      refine ⟨?_, ?_, by rw [hv]; exact hl⟩ <;> rw [hv] <;> split <;> omega
    · simp at h

theorem rdS_false {l : List Int} (h : (rdS l).2 = false) : rdS l = (0, false) := by
  unfold rdS at h ⊢
  split
  · rfl
  · rename_i h1; rw [if_neg h1] at h
    split
    · rfl
    · rename_i h2; rw [if_neg h2] at h; exact chk_false h
theorem rdI_false {l : List Int} (h : (rdI l).2 = false) : rdI l = (0, false) := by
  unfold rdI at h ⊢
  split
  · rfl
  · rename_i h1; rw [if_neg h1] at h
    split
    · rename_i h2; rw [if_pos h2] at h; exact chk_false h
    · rfl

theorem rdS_eq_rdI (l : List Int) : rdS l = rdI l := by
  cases hs : (rdS l).2 with
  | true =>
    have e : rdS l = ((rdS l).1, true) := by rw [← hs]
    obtain ⟨a, b, c⟩ := rdS_to e
    rw [e]
    conv => rhs; rw [c]
    exact (rdI_of a b).symm
  | false =>
    rw [rdS_false hs]
    cases hi : (rdI l).2 with
    | false => exact (rdI_false hi).symm
    | true =>
      have e : rdI l = ((rdI l).1, true) := by rw [← hi]
      obtain ⟨a, b, c⟩ := rdI_to e
      have := rdS_of a b
      rw [← c] at this
      rw [this] at hs
      simp at hs

end Go.Proofs.Ytfmddjbekophnaa.Base
