/- FnNames: the plain law -/
import Derived.Test.YtndbmllnkjngnaaPFnNamesx1
import Derived.Test.YtndbmllnkjngnaaBase
import Derived.Test.YtndbmllnkjngnaaNum
import Derived.Test.YtndbmllnkjngnaaNumDec
import Derived.Test.YtndbmllnkjngnaaNumRec
namespace Go.Proofs.Ytndbmllnkjngnaa.Pure
open Go.RowKit Go.Proofs.Ytndbmllnkjngnaa.PDs Go.Proofs.Ytndbmllnkjngnaa.PFnNames Go.Proofs.YtndbmllnkjngnaaW.PrintWords Go.Proofs.YtndbmllnkjngnaaW.PrintLast Go.Proofs.YtndbmllnkjngnaaW.PrintMore Go.Proofs.Ytndbmllnkjngnaa.Base
set_option linter.unusedVariables false
set_option linter.unusedSimpArgs false

theorem spec_l1In_run (a b c : Int) : spec_l1In.f a b c = some (decide (b ≤ a ∧ a ≤ c)) := by
  unfold spec_l1In.f
  by_cases h : a ≥ b
  · rw [if_pos h]; congr 1; simp [show b ≤ a from h]
  · rw [if_neg h]; congr 1; simp; omega

theorem impl_from_run (a b c : Int) : impl_from.f a b c = some (decide (b ≤ a ∧ a ≤ c)) := by
  unfold impl_from.f
  by_cases h : a ≥ b
  · rw [if_pos h]; congr 1; simp [show b ≤ a from h]
  · rw [if_neg h]; congr 1; simp; omega

theorem rdA35 (a : List S35) (x : S35) (b : List S35) : rd_T35 (a ++ x :: b) (a.length : Int) = x := by simp [rd_T35, List.getD]
theorem rdA37 (a : List S37) (x : S37) (b : List S37) : rd_T37 (a ++ x :: b) (a.length : Int) = x := by simp [rd_T37, List.getD]
theorem rdA39 (a : List S39) (x : S39) (b : List S39) : rd_T39 (a ++ x :: b) (a.length : Int) = x := by simp [rd_T39, List.getD]
theorem cb_self : ∀ a : List UInt8, Lib.compareBytes a a = 0
  | [] => rfl
  | x :: a => by rw [Lib.compareBytes, if_neg (UInt8.lt_irrefl x), if_neg (UInt8.lt_irrefl x)]; exact cb_self a
theorem cb_eq : ∀ {a b : List UInt8}, Lib.compareBytes a b = 0 → a = b
  | [], [], _ => rfl
  | [], _ :: _, h => by simp [Lib.compareBytes] at h
  | _ :: _, [], h => by simp [Lib.compareBytes] at h
  | x :: a, y :: b, h => by
    rw [Lib.compareBytes] at h
    by_cases h1 : x < y
    · rw [if_pos h1] at h; omega
    · rw [if_neg h1] at h
      by_cases h2 : y < x
      · rw [if_pos h2] at h; omega
      · rw [if_neg h2] at h
        rw [cb_eq h, UInt8.le_antisymm (UInt8.not_lt.1 h2) (UInt8.not_lt.1 h1)]
theorem cb_swap : ∀ (a b : List UInt8), Lib.compareBytes b a = - Lib.compareBytes a b
  | [], [] => rfl
  | [], _ :: _ => rfl
  | _ :: _, [] => rfl
  | x :: a, y :: b => by
    rw [Lib.compareBytes, Lib.compareBytes]
    by_cases h1 : x < y
    · rw [if_neg (UInt8.lt_asymm h1), if_pos h1, if_pos h1]; rfl
    · rw [if_neg h1]
      by_cases h2 : y < x
      · rw [if_pos h2, if_neg h1, if_pos h2]
      · rw [if_neg h2, if_neg h1, if_neg h2]; exact cb_swap a b
theorem cb_trans : ∀ {a b c : List UInt8}, Lib.compareBytes a b < 0 → Lib.compareBytes b c < 0 → Lib.compareBytes a c < 0
  | [], [], _, h, _ => by simp [Lib.compareBytes] at h
  | [], _ :: _, [], _, h => by simp [Lib.compareBytes] at h
  | [], _ :: _, _ :: _, _, _ => by simp [Lib.compareBytes]
  | _ :: _, [], _, h, _ => by simp [Lib.compareBytes] at h
  | _ :: _, _ :: _, [], _, h => by simp [Lib.compareBytes] at h
  | x :: a, y :: b, z :: c, h, g => by
    rw [Lib.compareBytes] at h g ⊢
    by_cases h1 : x < y
    · by_cases g1 : y < z
      · rw [if_pos (UInt8.lt_trans h1 g1)]; omega
      · rw [if_neg g1] at g
        by_cases g2 : z < y
        · rw [if_pos g2] at g; omega
        · have e : y = z := UInt8.le_antisymm (UInt8.not_lt.1 g2) (UInt8.not_lt.1 g1)
          subst e
          rw [if_pos h1]; omega
    · rw [if_neg h1] at h
      by_cases h2 : y < x
      · rw [if_pos h2] at h; omega
      · rw [if_neg h2] at h
        have e : x = y := UInt8.le_antisymm (UInt8.not_lt.1 h2) (UInt8.not_lt.1 h1)
        subst e
        by_cases g1 : x < z
        · rw [if_pos g1]; omega
        · rw [if_neg g1] at g ⊢
          by_cases g2 : z < x
          · rw [if_pos g2] at g; omega
          · rw [if_neg g2] at g ⊢; exact cb_trans h g
theorem cs_self (a : ByteArray) : cmpS a a = 0 := cb_self _
theorem cs_eq {a b : ByteArray} (h : cmpS a b = 0) : a = b := ByteArray.ext (Array.toList_inj.1 (cb_eq h))
theorem cs_swap (a b : ByteArray) : cmpS b a = - cmpS a b := cb_swap _ _
theorem cs_trans {a b c : ByteArray} (h : cmpS a b < 0) (g : cmpS b c < 0) : cmpS a c < 0 := cb_trans h g
theorem cs_ne {a b : ByteArray} (h : cmpS a b < 0) : a ≠ b := fun e => by rw [e, cs_self] at h; omega
abbrev Lk := S37
def Srt (l : List Lk) : Prop := l.Pairwise fun x y => cmpS x.f0 y.f0 < 0
theorem srt_cons {x : Lk} {l : List Lk} : Srt (x :: l) ↔ (∀ y ∈ l, cmpS x.f0 y.f0 < 0) ∧ Srt l := List.pairwise_cons
theorem srt_nil : Srt [] := List.Pairwise.nil
def posM : List Lk → ByteArray → Nat
  | [], _ => 0
  | x :: r, s => if cmpS x.f0 s < 0 then posM r s + 1 else 0
def idM : List Lk → ByteArray → Option Int
  | [], _ => none
  | x :: r, s => if x.f0 = s then some x.f1 else idM r s
theorem posM_le : ∀ (l : List Lk) (s : ByteArray), posM l s ≤ l.length
  | [], _ => Nat.le_refl _
  | x :: r, s => by rw [posM]; split <;> simp; exact posM_le r s
theorem rdL_cons (x : Lk) (r : List Lk) (i : Int) (h : 0 < i) : rd_T37 (x :: r) i = rd_T37 r (i - 1) := by
  unfold rd_T37
  rw [show i.toNat = (i - 1).toNat + 1 by omega]; rfl
theorem posM_lt : ∀ (l : List Lk) (s : ByteArray), Srt l → ∀ i : Int, 0 ≤ i → i < (l.length : Int) → (cmpS (rd_T37 l i).f0 s < 0 ↔ i < (posM l s : Int))
  | [], s, _, i, h0, h1 => by simp at h1; omega
  | x :: r, s, hs, i, h0, h1 => by
    obtain ⟨hx, hr⟩ := srt_cons.1 hs
    rw [List.length_cons] at h1
    rw [posM]
    by_cases hi : i = 0
    · subst hi
      have e : rd_T37 (x :: r) 0 = x := rfl
      rw [e]
      by_cases c : cmpS x.f0 s < 0
      · rw [if_pos c]; exact ⟨fun _ => by omega, fun _ => c⟩
      · rw [if_neg c]; exact ⟨fun h => absurd h c, fun h => by omega⟩
    · rw [rdL_cons x r i (by omega)]
      have ih := posM_lt r s hr (i - 1) (by omega) (by omega)
      by_cases c : cmpS x.f0 s < 0
      · rw [if_pos c, ih]; omega
      · rw [if_neg c]
        refine ⟨fun h => ?_, fun h => by omega⟩
        exfalso
        have hm : rd_T37 r (i - 1) ∈ r := by
          unfold rd_T37
          rw [List.getD_eq_getElem?_getD, List.getElem?_eq_getElem (by omega)]
          exact List.getElem_mem _
        exact c (cs_trans (hx _ hm) h)
theorem bsn_pos (l : List Lk) (s : ByteArray) (hs : Srt l) : ∀ (k : Nat) (i j : Int), 0 ≤ i → i ≤ (posM l s : Int) → (posM l s : Int) ≤ j → j ≤ (l.length : Int) → j - i ≤ k → bsn l s k i j = (posM l s : Int)
  | 0, i, j, h0, h1, h2, h3, h4 => by simp only [bsn]; omega
  | k + 1, i, j, h0, h1, h2, h3, h4 => by
    simp only [bsn]
    by_cases c : i < j
    · rw [if_pos c]
      have e := posM_lt l s hs ((i + j) / 2) (by omega) (by omega)
      by_cases c2 : cmpS (rd_T37 l ((i + j) / 2)).f0 s < 0
      · rw [if_pos c2]
        have := e.1 c2
        exact bsn_pos l s hs k _ _ (by omega) (by omega) h2 h3 (by omega)
      · rw [if_neg c2]
        have : ¬ ((i + j) / 2 < (posM l s : Int)) := fun h => c2 (e.2 h)
        exact bsn_pos l s hs k _ _ h0 h1 (by omega) (by omega) (by omega)
    · rw [if_neg c]; omega
theorem idM_none : ∀ (l : List Lk) (s : ByteArray), (∀ y ∈ l, y.f0 ≠ s) → idM l s = none
  | [], _, _ => rfl
  | x :: r, s, h => by rw [idM, if_neg (h x List.mem_cons_self)]; exact idM_none r s (fun y hy => h y (List.mem_cons_of_mem _ hy))
theorem pos_id : ∀ (l : List Lk) (s : ByteArray), Srt l → (match idM l s with
    | some i => posM l s < l.length ∧ rd_T37 l (posM l s : Int) = ⟨s, i⟩
    | none => ¬ (posM l s < l.length ∧ cmpS (rd_T37 l (posM l s : Int)).f0 s = 0))
  | [], s, _ => by simp [idM, posM]
  | x :: r, s, hs => by
    obtain ⟨hx, hr⟩ := srt_cons.1 hs
    have ih := pos_id r s hr
    rw [idM, posM]
    by_cases c : cmpS x.f0 s < 0
    · rw [if_pos c, if_neg (cs_ne c)]
      rw [show (((posM r s + 1 : Nat)) : Int) = (posM r s : Int) + 1 by omega, rdL_cons x r _ (by omega), show (posM r s : Int) + 1 - 1 = (posM r s : Int) by omega, List.length_cons]
      cases hd : idM r s with
      | some i => rw [hd] at ih; exact ⟨by have := ih.1; omega, ih.2⟩
      | none => rw [hd] at ih; exact fun h => ih ⟨by have := h.1; omega, h.2⟩
    · rw [if_neg c]
      have e : rd_T37 (x :: r) ((0 : Nat) : Int) = x := rfl
      rw [e]
      by_cases c2 : x.f0 = s
      · rw [if_pos c2]
        refine ⟨by simp, ?_⟩
        rw [← c2]
      · rw [if_neg c2]
        have hn : idM r s = none := idM_none r s (fun y hy he => by
          have h1 := hx y hy
          rw [he] at h1
          exact c h1)
        rw [hn]
        exact fun h => c2 (cs_eq h.2)
def insR : List Lk → Lk → List Lk
  | [], x => [x]
  | y :: r, x => if cmpS y.f0 x.f0 < 0 then y :: insR r x else x :: y :: r
theorem insR_eq : ∀ (l : List Lk) (x : Lk), l.take (posM l x.f0) ++ x :: l.drop (posM l x.f0) = insR l x
  | [], x => rfl
  | y :: r, x => by
    rw [insR, posM]
    by_cases c : cmpS y.f0 x.f0 < 0
    · rw [if_pos c, if_pos c, List.take_succ_cons, List.drop_succ_cons, List.cons_append, insR_eq r x]
    · rw [if_neg c, if_neg c]; rfl
theorem insR_mem : ∀ (l : List Lk) (x y : Lk), y ∈ insR l x ↔ y = x ∨ y ∈ l
  | [], x, y => by simp [insR]
  | z :: r, x, y => by
    rw [insR]
    split
    · rw [List.mem_cons, insR_mem r x y, List.mem_cons]; exact ⟨fun h => by rcases h with h | h | h <;> simp [h], fun h => by rcases h with h | h | h <;> simp [h]⟩
    · rw [List.mem_cons]
theorem insR_length : ∀ (l : List Lk) (x : Lk), (insR l x).length = l.length + 1
  | [], x => rfl
  | z :: r, x => by
    rw [insR]
    split
    · rw [List.length_cons, insR_length r x, List.length_cons]
    · simp
theorem insR_srt : ∀ (l : List Lk) (x : Lk), Srt l → (∀ y ∈ l, y.f0 ≠ x.f0) → Srt (insR l x)
  | [], x, _, _ => srt_cons.2 ⟨fun y hy => (by cases hy), srt_nil⟩
  | y :: r, x, hs, hn => by
    obtain ⟨hy, hr⟩ := srt_cons.1 hs
    rw [insR]
    by_cases c : cmpS y.f0 x.f0 < 0
    · rw [if_pos c]
      refine srt_cons.2 ⟨fun z hz => ?_, insR_srt r x hr (fun z hz => hn z (List.mem_cons_of_mem _ hz))⟩
      rcases (insR_mem r x z).1 hz with rfl | hz
      · exact c
      · exact hy z hz
    · rw [if_neg c]
      have h1 : cmpS x.f0 y.f0 < 0 := by
        have h2 := cs_swap y.f0 x.f0
        have h3 : cmpS y.f0 x.f0 ≠ 0 := fun h => hn y List.mem_cons_self (cs_eq h)
        omega
      refine srt_cons.2 ⟨fun z hz => ?_, hs⟩
      rcases List.mem_cons.1 hz with rfl | hz
      · exact h1
      · exact cs_trans h1 (hy z hz)
theorem delM_ne (s : ByteArray) (l : List Lk) : ∀ y ∈ delM s l, y.f0 ≠ s := by
  intro y hy he
  unfold delM at hy
  have := (List.mem_filter.1 hy).2
  rw [he] at this
  simp at this
theorem delM_mem (s : ByteArray) (l : List Lk) (y : Lk) (h : y ∈ delM s l) : y ∈ l := by
  unfold delM at h; exact (List.mem_filter.1 h).1
theorem delM_srt (s : ByteArray) {l : List Lk} (h : Srt l) : Srt (delM s l) := List.Pairwise.filter _ h
theorem delM_length (s : ByteArray) (l : List Lk) : (delM s l).length ≤ l.length := List.length_filter_le _ _

theorem nodup_le : ∀ (a b : List Int), a.Nodup → (∀ x ∈ a, x ∈ b) → a.length ≤ b.length
  | [], b, _, _ => Nat.zero_le _
  | x :: a, b, hn, h => by
    obtain ⟨h1, h2⟩ := List.nodup_cons.1 hn
    have hx := h x List.mem_cons_self
    have e := List.length_erase_of_mem hx
    have hp := List.length_pos_of_mem hx
    have ih := nodup_le a (b.erase x) h2 (fun y hy => (List.mem_erase_of_ne (fun e => h1 (by rw [← e]; exact hy))).2 (h y (List.mem_cons_of_mem _ hy)))
    rw [List.length_cons]; omega
theorem nodup_all {a b : List Int} (ha : a.Nodup) (hb : b.Nodup) (h : ∀ x ∈ a, x ∈ b) : a.length = b.length ↔ ∀ y ∈ b, y ∈ a := by
  constructor
  · intro e y hy
    by_cases c : y ∈ a
    · exact c
    · have := nodup_le (y :: a) b (List.nodup_cons.2 ⟨c, ha⟩) (fun x hx => by
        rcases List.mem_cons.1 hx with rfl | hx
        · exact hy
        · exact h x hx)
      rw [List.length_cons] at this; omega
  · intro g
    have h1 := nodup_le a b ha h
    have h2 := nodup_le b a hb g
    omega
abbrev Nd := S35
abbrev Mv := S39
def nameB (b : Int) : Bool := decide ((97 ≤ b ∧ b ≤ 122) ∨ (48 ≤ b ∧ b ≤ 57) ∨ b = 46)
def nameM (s : ByteArray) : Bool := decide (1 ≤ (s.size : Int) ∧ (s.size : Int) ≤ 12) && (bytesOf s).all nameB
def appM (l : List Lk) (m : Mv) : Option (List Lk) :=
  if nameM m.f1 = true then
    if m.f0 = 1 then (if idM l m.f1 = none ∧ m.f2.size = 0 then some (insR (delM m.f1 l) ⟨m.f1, m.f3⟩) else none)
    else if m.f0 = 2 then (match idM l m.f1 with
      | some i => if m.f3 = 0 ∧ nameM m.f2 = true ∧ m.f2 ≠ m.f1 then some (insR (delM m.f2 (delM m.f1 l)) ⟨m.f2, i⟩) else none
      | none => none)
    else if m.f0 = 3 then (if idM l m.f1 ≠ none ∧ m.f2.size = 0 ∧ m.f3 = 0 then some (delM m.f1 l) else none)
    else none
  else none
theorem appM_srt {l l' : List Lk} {m : Mv} (hs : Srt l) (h : appM l m = some l') : Srt l' := by
  unfold appM at h
  split at h
  · split at h
    · split at h
      · cases h; exact insR_srt _ _ (delM_srt _ hs) (delM_ne _ _)
      · cases h
    · split at h
      · split at h
        · split at h
          · cases h; exact insR_srt _ _ (delM_srt _ (delM_srt _ hs)) (delM_ne _ _)
          · cases h
        · cases h
      · split at h
        · split at h
          · cases h; exact delM_srt _ hs
          · cases h
        · cases h
  · cases h
theorem appM_length {l l' : List Lk} {m : Mv} (h : appM l m = some l') : l'.length ≤ l.length + 1 := by
  unfold appM at h
  split at h
  · split at h
    · split at h
      · cases h; rw [insR_length]; have := delM_length m.f1 l; omega
      · cases h
    · split at h
      · split at h
        · split at h
          · cases h; rw [insR_length]; have := delM_length m.f1 l; have := delM_length m.f2 (delM m.f1 l); omega
          · cases h
        · cases h
      · split at h
        · split at h
          · cases h; have := delM_length m.f1 l; omega
          · cases h
        · cases h
  · cases h
def movM : List Lk → List Mv → Option (List Lk)
  | l, [] => some l
  | l, m :: r => (appM l m).bind fun l' => movM l' r
theorem movM_snoc : ∀ (a : List Mv) (l : List Lk) (m : Mv), movM l (a ++ [m]) = (movM l a).bind fun l' => appM l' m
  | [], l, m => by simp [movM]
  | x :: a, l, m => by
    rw [List.cons_append, movM, movM]
    cases appM l x with
    | none => rfl
    | some l' => exact movM_snoc a l' m
theorem movM_srt : ∀ (ms : List Mv) {l l' : List Lk}, Srt l → movM l ms = some l' → Srt l' ∧ l'.length ≤ l.length + ms.length
  | [], l, l', hs, h => by cases h; exact ⟨hs, by simp⟩
  | m :: r, l, l', hs, h => by
    rw [movM] at h
    cases e : appM l m with
    | none => rw [e] at h; cases h
    | some l1 =>
      rw [e] at h
      obtain ⟨q1, q2⟩ := movM_srt r (appM_srt hs e) h
      have := appM_length e
      rw [List.length_cons]
      exact ⟨q1, by omega⟩
def hasM (l : List Nd) (i : Int) : Bool := l.any fun x => decide (x.f0 = i)
def dirR (nd : List Nd) : Option ByteArray → List Int → List Lk → Bool
  | _, _, [] => true
  | p, own, x :: r => nameM x.f0 && (match p with | none => true | some q => decide (cmpS q x.f0 < 0)) && hasM nd x.f1 && !(decide (x.f1 ∈ own)) && dirR nd (some x.f0) (own ++ [x.f1]) r
theorem dirR_srt (nd : List Nd) : ∀ (l : List Lk) (p : Option ByteArray) (own : List Int), dirR nd p own l = true → Srt l ∧ (∀ q, p = some q → ∀ y ∈ l, cmpS q y.f0 < 0) ∧ (∀ y ∈ l, hasM nd y.f1 = true) ∧ (own.Nodup → (own ++ l.map fun y => y.f1).Nodup)
  | [], p, own, _ => ⟨srt_nil, fun _ _ y hy => (by cases hy), fun y hy => (by cases hy), fun h => by simpa using h⟩
  | x :: r, p, own, h => by
    unfold dirR at h
    simp only [Bool.and_eq_true, Bool.not_eq_true', decide_eq_false_iff_not] at h
    obtain ⟨⟨⟨⟨h1, h2⟩, h3⟩, h4⟩, h5⟩ := h
    obtain ⟨g1, g2, g3, g4⟩ := dirR_srt nd r (some x.f0) (own ++ [x.f1]) h5
    refine ⟨srt_cons.2 ⟨g2 x.f0 rfl, g1⟩, ?_, ?_, ?_⟩
    · intro q hq y hy
      subst hq
      simp only [decide_eq_true_eq] at h2
      rcases List.mem_cons.1 hy with rfl | hy
      · exact h2
      · exact cs_trans h2 (g2 _ rfl y hy)
    · intro y hy
      rcases List.mem_cons.1 hy with rfl | hy
      · exact h3
      · exact g3 y hy
    · intro hn
      have := g4 (List.nodup_append.2 ⟨hn, by simp, fun a ha b hb e => by
        rw [List.mem_singleton.1 hb] at e
        exact h4 (by rw [← e]; exact ha)⟩)
      simpa using this
def mvsR (nd : List Nd) : List Int → List Lk → List Mv → Option (List Int)
  | own, _, [] => some own
  | own, l, m :: r => match appM l m with
    | none => none
    | some l' => if m.f0 = 1 then (if hasM nd m.f3 = true ∧ m.f3 ∉ own then mvsR nd (own ++ [m.f3]) l' r else none) else mvsR nd own l' r
def madeM (ms : List Mv) : List Int := (ms.filter fun m => decide (m.f0 = 1)).map fun m => m.f3
theorem mvsR_own (nd : List Nd) : ∀ (ms : List Mv) (own : List Int) (l : List Lk) (o : List Int), mvsR nd own l ms = some o → o = own ++ madeM ms ∧ (own.Nodup → o.Nodup) ∧ ((∀ x ∈ own, hasM nd x = true) → ∀ x ∈ o, hasM nd x = true) ∧ (movM l ms).isSome = true
  | [], own, l, o, h => by cases h; exact ⟨by simp [madeM], id, id, rfl⟩
  | m :: r, own, l, o, h => by
    rw [mvsR] at h
    cases e : appM l m with
    | none => rw [e] at h; cases h
    | some l' =>
      rw [e] at h
      simp only [] at h
      by_cases c : m.f0 = 1
      · rw [if_pos c] at h
        by_cases c2 : hasM nd m.f3 = true ∧ m.f3 ∉ own
        · rw [if_pos c2] at h
          obtain ⟨h1, h2, h3, h4⟩ := mvsR_own nd r _ l' o h
          refine ⟨by rw [h1]; simp [madeM, c], fun hn => h2 ?_, fun ha => h3 ?_, by rw [movM, e]; exact h4⟩
          · exact List.nodup_append.2 ⟨hn, by simp, fun a ha b hb e => by
              rw [List.mem_singleton.1 hb] at e
              exact c2.2 (by rw [← e]; exact ha)⟩
          · intro x hx
            rcases List.mem_append.1 hx with hx | hx
            · exact ha x hx
            · rw [List.mem_singleton.1 hx]; exact c2.1
        · rw [if_neg c2] at h; cases h
      · rw [if_neg c] at h
        obtain ⟨h1, h2, h3, h4⟩ := mvsR_own nd r _ l' o h
        exact ⟨by rw [h1]; simp [madeM, c], h2, h3, by rw [movM, e]; exact h4⟩
def nodR (next : Int) : Option Int → List Nd → Bool
  | _, [] => true
  | p, x :: r => decide (1 ≤ x.f0 ∧ x.f0 ≤ next - 1) && (match p with | none => true | some q => decide (q < x.f0)) && decide (0 ≤ x.f2 ∧ x.f2 ≤ (x.f1.size : Int)) && nodR next (some x.f0) r
theorem nodR_nodup (next : Int) : ∀ (l : List Nd) (p : Option Int), nodR next p l = true → (l.map fun x => x.f0).Nodup ∧ ∀ q, p = some q → ∀ y ∈ l, q < y.f0
  | [], p, _ => ⟨List.nodup_nil, fun _ _ y hy => by cases hy⟩
  | x :: r, p, h => by
    unfold nodR at h
    simp only [Bool.and_eq_true, decide_eq_true_eq] at h
    obtain ⟨⟨⟨h1, h2⟩, h3⟩, h4⟩ := h
    obtain ⟨g1, g2⟩ := nodR_nodup next r (some x.f0) h4
    refine ⟨?_, ?_⟩
    · rw [List.map_cons]
      refine List.nodup_cons.2 ⟨fun hm => ?_, g1⟩
      obtain ⟨y, hy, e⟩ := List.mem_map.1 hm
      have := g2 x.f0 rfl y hy
      omega
    · intro q hq y hy
      subst hq
      simp only [decide_eq_true_eq] at h2
      rcases List.mem_cons.1 hy with rfl | hy
      · exact h2
      · have := g2 x.f0 rfl y hy; omega
def usedM (l : List Nd) : Int := (l.map fun x => (x.f1.size : Int)).foldr (· + ·) 0
def okM (room next : Int) (nd : List Nd) (dir : List Lk) (mv : List Mv) : Bool :=
  decide (0 ≤ room ∧ room ≤ 1048576) && decide (1 ≤ next ∧ next ≤ 1000000) && nodR next none nd && decide ((nd.length : Int) ≤ 10) && decide (usedM nd ≤ room) && decide ((mv.length : Int) ≤ 20) && dirR nd none [] dir && (match mvsR nd (dir.map fun y => y.f1) dir mv with | none => false | some o => decide ((o.length : Int) = nd.length))
theorem hasM_mem (nd : List Nd) (i : Int) : hasM nd i = true ↔ i ∈ nd.map fun x => x.f0 := by
  simp [hasM]
theorem okM_spec (room next : Int) (nd : List Nd) (dir : List Lk) (mv : List Mv) : okM room next nd dir mv = true ↔ (0 ≤ room ∧ room ≤ 1048576) ∧ (1 ≤ next ∧ next ≤ 1000000) ∧ (nd.length : Int) ≤ 10 ∧ (mv.length : Int) ≤ 20 ∧ (dir.length : Int) ≤ 10 ∧ usedM nd ≤ room ∧ nodR next none nd = true ∧ (∀ x ∈ nd, x.f0 ∈ dir.map (fun y => y.f1) ∨ x.f0 ∈ madeM mv) ∧ dirR nd none [] dir = true ∧ (mvsR nd (dir.map fun y => y.f1) dir mv).isSome = true := by
  unfold okM
  simp only [Bool.and_eq_true, decide_eq_true_eq]
  constructor
  · rintro ⟨⟨⟨⟨⟨⟨⟨h1, h2⟩, h3⟩, h4⟩, h5⟩, h6⟩, h7⟩, h8⟩
    cases e : mvsR nd (dir.map fun y => y.f1) dir mv with
    | none => rw [e] at h8; cases h8
    | some o =>
      rw [e] at h8
      simp only [decide_eq_true_eq] at h8
      obtain ⟨s1, s2, s3, s4⟩ := dirR_srt nd dir none [] h7
      obtain ⟨o1, o2, o3, o4⟩ := mvsR_own nd mv _ dir o e
      have hnd := (nodR_nodup next nd none h3).1
      have hdn : (dir.map fun y => y.f1).Nodup := by simpa using s4 List.nodup_nil
      have hon := o2 hdn
      have hsub : ∀ x ∈ o, x ∈ nd.map fun x => x.f0 := fun x hx => (hasM_mem nd x).1 (o3 (fun y hy => by
        obtain ⟨z, hz, rfl⟩ := List.mem_map.1 hy
        exact s3 z hz) x hx)
      have hall := (nodup_all hon hnd hsub).1 (by rw [List.length_map]; omega)
      have hlen := nodup_le _ _ hdn (fun x hx => hsub x (by rw [o1]; exact List.mem_append.2 (.inl hx)))
      rw [List.length_map, List.length_map] at hlen
      refine ⟨h1, h2, h4, h6, by omega, h5, h3, fun x hx => ?_, h7, rfl⟩
      have := hall x.f0 (List.mem_map.2 ⟨x, hx, rfl⟩)
      rw [o1] at this
      exact List.mem_append.1 this
  · rintro ⟨h1, h2, h4, h6, hd, h5, h3, ha, h7, h8⟩
    refine ⟨⟨⟨⟨⟨⟨⟨h1, h2⟩, h3⟩, h4⟩, h5⟩, h6⟩, h7⟩, ?_⟩
    cases e : mvsR nd (dir.map fun y => y.f1) dir mv with
    | none => rw [e] at h8; cases h8
    | some o =>
      simp only [decide_eq_true_eq]
      obtain ⟨s1, s2, s3, s4⟩ := dirR_srt nd dir none [] h7
      obtain ⟨o1, o2, o3, o4⟩ := mvsR_own nd mv _ dir o e
      have hnd := (nodR_nodup next nd none h3).1
      have hdn : (dir.map fun y => y.f1).Nodup := by simpa using s4 List.nodup_nil
      have hsub : ∀ x ∈ o, x ∈ nd.map fun x => x.f0 := fun x hx => (hasM_mem nd x).1 (o3 (fun y hy => by
        obtain ⟨z, hz, rfl⟩ := List.mem_map.1 hy
        exact s3 z hz) x hx)
      have := (nodup_all (o2 hdn) hnd hsub).2 (fun y hy => by
        obtain ⟨x, hx, rfl⟩ := List.mem_map.1 hy
        rw [o1]
        exact List.mem_append.2 (ha x hx))
      rw [List.length_map] at this
      omega

theorem tl_iff {s t : ByteArray} : s.toList = t.toList ↔ s = t := toList_eq_iff
theorem tl_nil {s : ByteArray} : s.toList = ([] : List UInt8) ↔ s.size = 0 := by
  rw [ByteArray.toList_eq]
  have : s.size = s.data.toList.length := by rw [Array.length_toList]; rfl
  rw [this]
  exact ⟨fun h => by rw [h]; rfl, fun h => List.length_eq_zero_iff.1 h⟩
theorem bl_cmp : ∀ (a b : List UInt8), Op.bytesLess a b = decide (Lib.compareBytes a b < 0)
  | [], [] => rfl
  | [], _ :: _ => rfl
  | _ :: _, [] => rfl
  | x :: a, y :: b => by
    rw [Op.bytesLess, Lib.compareBytes, bl_cmp a b]
    by_cases h1 : x < y
    · rw [if_pos h1, decide_eq_true h1]; rfl
    · rw [if_neg h1, decide_eq_false h1, Bool.false_or]
      by_cases h2 : y < x
      · rw [if_pos h2]
        have : (x == y) = false := beq_eq_false_iff_ne.mpr (fun e => by rw [e] at h2; exact UInt8.lt_irrefl _ h2)
        rw [this]; rfl
      · rw [if_neg h2]
        have : x = y := UInt8.le_antisymm (UInt8.not_lt.1 h2) (UInt8.not_lt.1 h1)
        rw [beq_iff_eq.mpr this, Bool.true_and]
theorem bl_s (a b : ByteArray) : (Op.bytesLess a.toList b.toList = true) ↔ cmpS a b < 0 := by
  rw [ByteArray.toList_eq, ByteArray.toList_eq, bl_cmp, decide_eq_true_eq]; rfl
def usedR : List Nd → Int
  | [] => 0
  | x :: r => (x.f1.size : Int) + usedR r
theorem usedM_eq : ∀ l : List Nd, usedM l = usedR l
  | [] => rfl
  | x :: r => by
    have := usedM_eq r
    unfold usedM at this ⊢
    rw [List.map_cons, List.foldr_cons, this]; rfl
theorem usedR_le : ∀ (l : List Nd), (∀ x ∈ l, x.f1.size ≤ 2097152) → 0 ≤ usedR l ∧ usedR l ≤ 2097152 * (l.length : Int)
  | [], _ => by simp [usedR]
  | x :: r, h => by
    have := usedR_le r (fun y hy => h y (List.mem_cons_of_mem _ hy))
    have := h x List.mem_cons_self
    rw [usedR, List.length_cons]; omega
theorem l4Bytes_run (ro nx : Int) (di : List Lk) (mv : List Mv) : ∀ (b a : List Nd) (k : Nat) (acc : Int), a.length + b.length ≤ 2097152 → (∀ x ∈ b, x.f1.size ≤ 2097152) → 0 ≤ acc → acc ≤ 2097152 * (a.length : Int) → b.length < k → spec_l4Bytes.l0 k acc (a.length : Int) ro nx (a ++ b) di mv = some (acc + usedR b)
  | [], a, k, acc, h0, h1, h2, h3, hk => by
    obtain ⟨q, rfl⟩ : ∃ m, k = m + 1 := ⟨k - 1, by omega⟩
    simp only [spec_l4Bytes.l0]; rw [if_neg (by simp), usedR, Int.add_zero]
  | x :: b, a, k, acc, h0, h1, h2, h3, hk => by
    simp only [List.length_cons] at h0 hk
    obtain ⟨q, rfl⟩ : ∃ m, k = m + 1 := ⟨k - 1, by omega⟩
    have hx := h1 x List.mem_cons_self
    have f := l4Bytes_run ro nx di mv b (a ++ [x]) q (acc + (x.f1.size : Int)) (by simp; omega) (fun y hy => h1 y (List.mem_cons_of_mem _ hy)) (by omega) (by simp; omega) (by omega)
    rw [List.append_assoc, List.singleton_append, show (((a ++ [x]).length : Nat) : Int) = (a.length : Int) + 1 by simp] at f
    simp only [spec_l4Bytes.l0]
    rw [if_pos (by simp; omega), if_pos (by omega), rdA35, w64 (n := acc + (x.f1.size : Int)) (by omega) (by omega), w64 (n := (a.length : Int) + 1) (by omega) (by omega), f, usedR, Int.add_assoc]
theorem l4Bytes_f (ro nx : Int) (nd : List Nd) (di : List Lk) (mv : List Mv) (h0 : nd.length ≤ 1048676) (h1 : ∀ x ∈ nd, x.f1.size ≤ 2097152) (k : Nat) (hk : nd.length < k) : spec_l4Bytes.f k ro nx nd di mv = some (usedR nd) := by
  have := l4Bytes_run ro nx di mv nd [] k 0 (by simp; omega) h1 (by omega) (by simp) hk
  unfold spec_l4Bytes.f
  simpa using this
theorem l4Linked_run (i : Int) : ∀ (b a : List Lk) (k : Nat), a.length + b.length ≤ 2097152 → b.length < k → spec_l4Linked.l0 k (a ++ b) i (a.length : Int) = some (decide (i ∈ b.map fun y => y.f1))
  | [], a, k, h0, hk => by
    obtain ⟨q, rfl⟩ : ∃ m, k = m + 1 := ⟨k - 1, by omega⟩
    simp only [spec_l4Linked.l0]; rw [if_neg (by simp)]; simp
  | x :: b, a, k, h0, hk => by
    simp only [List.length_cons] at h0 hk
    obtain ⟨q, rfl⟩ : ∃ m, k = m + 1 := ⟨k - 1, by omega⟩
    have f := l4Linked_run i b (a ++ [x]) q (by simp; omega) (by omega)
    rw [List.append_assoc, List.singleton_append, show (((a ++ [x]).length : Nat) : Int) = (a.length : Int) + 1 by simp] at f
    simp only [spec_l4Linked.l0]
    rw [if_pos (by simp; omega), if_pos (by omega), rdA37, w64 (n := (a.length : Int) + 1) (by omega) (by omega), f]
    by_cases c : x.f1 = i
    · rw [if_pos c, decide_eq_true]; simp [c]
    · rw [if_neg c]; congr 1; rw [Bool.eq_iff_iff, decide_eq_true_eq, decide_eq_true_eq, List.map_cons, List.mem_cons]
      exact ⟨fun h => .inr h, fun h => h.resolve_left (fun e => c e.symm)⟩
theorem l4Linked_f (l : List Lk) (i : Int) (h0 : l.length ≤ 1048676) (k : Nat) (hk : l.length < k) : spec_l4Linked.f k l i = some (decide (i ∈ l.map fun y => y.f1)) := by
  have := l4Linked_run i l [] k (by simp; omega) hk
  unfold spec_l4Linked.f
  simpa using this
theorem madeM_cons (x : Mv) (b : List Mv) : madeM (x :: b) = if x.f0 = 1 then x.f3 :: madeM b else madeM b := by
  unfold madeM
  by_cases c : x.f0 = 1
  · rw [if_pos c, List.filter_cons_of_pos (by simpa using c)]; rfl
  · rw [if_neg c, List.filter_cons_of_neg (by simpa using c)]
theorem l4Made_run (i : Int) : ∀ (b a : List Mv) (k : Nat), a.length + b.length ≤ 2097152 → b.length < k → spec_l4Made.l0 k (a ++ b) i (a.length : Int) = some (decide (i ∈ madeM b))
  | [], a, k, h0, hk => by
    obtain ⟨q, rfl⟩ : ∃ m, k = m + 1 := ⟨k - 1, by omega⟩
    simp only [spec_l4Made.l0]; rw [if_neg (by simp)]; simp [madeM]
  | x :: b, a, k, h0, hk => by
    simp only [List.length_cons] at h0 hk
    obtain ⟨q, rfl⟩ : ∃ m, k = m + 1 := ⟨k - 1, by omega⟩
    have f := l4Made_run i b (a ++ [x]) q (by simp; omega) (by omega)
    rw [List.append_assoc, List.singleton_append, show (((a ++ [x]).length : Nat) : Int) = (a.length : Int) + 1 by simp] at f
    simp only [spec_l4Made.l0]
    rw [if_pos (by simp; omega), if_pos (by omega), rdA39, w64 (n := (a.length : Int) + 1) (by omega) (by omega), f, madeM_cons]
    by_cases c : x.f0 = 1
    · rw [if_pos c, if_pos c]
      by_cases c2 : x.f3 = i
      · rw [if_pos c2, decide_eq_true]; rw [c2]; exact List.mem_cons_self
      · rw [if_neg c2]; congr 1; rw [Bool.eq_iff_iff, decide_eq_true_eq, decide_eq_true_eq, List.mem_cons]
        exact ⟨fun h => .inr h, fun h => h.resolve_left (fun e => c2 e.symm)⟩
    · rw [if_neg c, if_neg c]
theorem l4Made_f (l : List Mv) (i : Int) (h0 : l.length ≤ 1048676) (k : Nat) (hk : l.length < k) : spec_l4Made.f k l i = some (decide (i ∈ madeM l)) := by
  have := l4Made_run i l [] k (by simp; omega) hk
  unfold spec_l4Made.f
  simpa using this
theorem l4Name_run (s : ByteArray) (hs : s.size ≤ 1048676) : ∀ (d k : Nat) (i : Int), 0 ≤ i → i + d = s.size → d < k → spec_l4Name.l0 k s i = some (((bytesOf s).drop i.toNat).all nameB) := by
  intro d
  induction d with
  | zero =>
    intro k i h0 h1 hk
    obtain ⟨q, rfl⟩ : ∃ m, k = m + 1 := ⟨k - 1, by omega⟩
    simp only [spec_l4Name.l0]
    rw [if_neg (by omega), List.drop_of_length_le (by rw [bytesOf_length]; omega)]; rfl
  | succ d ih =>
    intro k i h0 h1 hk
    obtain ⟨q, rfl⟩ : ∃ m, k = m + 1 := ⟨k - 1, by omega⟩
    have f := ih q (i + 1) (by omega) (by omega) (by omega)
    simp only [spec_l4Name.l0]
    rw [if_pos (by omega), if_pos h0, w64 (n := i + 1) (by omega) (by omega), f, bt_drop h0 (by omega), List.all_cons, show (i + 1).toNat = i.toNat + 1 by omega]
    generalize bt s i = v
    generalize ((bytesOf s).drop (i.toNat + 1)).all nameB = R
    have e : nameB v = decide ((97 ≤ v ∧ v ≤ 122) ∨ (48 ≤ v ∧ v ≤ 57) ∨ v = 46) := rfl
    by_cases hv : (97 ≤ v ∧ v ≤ 122) ∨ (48 ≤ v ∧ v ≤ 57) ∨ v = 46
    · rw [e, decide_eq_true hv, Bool.true_and]
      repeat' split
      all_goals (first | rfl | (exfalso; omega))
    · rw [e, decide_eq_false hv, Bool.false_and]
      repeat' split
      all_goals (first | rfl | (exfalso; omega))
theorem l4Name_f (s : ByteArray) (hs : s.size ≤ 1048676) (k : Nat) (hk : s.size < k) : spec_l4Name.f k s = some (nameM s) := by
  unfold spec_l4Name.f nameM
  rw [spec_l1In_run]
  simp only [Option.bind_some, decide_eq_true_eq]
  by_cases h : 1 ≤ (s.size : Int) ∧ (s.size : Int) ≤ 12
  · rw [if_pos h, l4Name_run s hs s.size k 0 (by omega) (by omega) hk, decide_eq_true h]; rfl
  · rw [if_neg h, decide_eq_false h]; rfl
theorem ixf_range (i : Int) : ∀ (l : List Nd) (o : Int), 0 ≤ o → (ixf i l o = -1 ∧ hasM l i = false) ∨ (o ≤ ixf i l o ∧ ixf i l o < o + l.length ∧ hasM l i = true)
  | [], o, h => .inl ⟨rfl, rfl⟩
  | x :: r, o, h => by
    rw [ixf]
    have e : hasM (x :: r) i = (decide (x.f0 = i) || hasM r i) := rfl
    by_cases c : x.f0 = i
    · rw [if_pos (by simpa using c), e, decide_eq_true c, List.length_cons]; exact .inr ⟨by omega, by omega, rfl⟩
    · rw [if_neg (by simpa using c), e, decide_eq_false c, Bool.false_or, List.length_cons]
      rcases ixf_range i r (o + 1) (by omega) with ⟨h1, h2⟩ | ⟨h1, h2, h3⟩
      · exact .inl ⟨h1, h2⟩
      · exact .inr ⟨by omega, by omega, h3⟩
theorem l4Inode_run (ro nx i : Int) (di : List Lk) (mv : List Mv) : ∀ (b a : List Nd) (k : Nat), a.length + b.length ≤ 2097152 → b.length < k → spec_l4Inode.l0 k i (a.length : Int) ro nx (a ++ b) di mv = some (ixf i b a.length)
  | [], a, k, h0, hk => by
    obtain ⟨q, rfl⟩ : ∃ m, k = m + 1 := ⟨k - 1, by omega⟩
    simp only [spec_l4Inode.l0]; rw [if_neg (by simp)]; rfl
  | x :: b, a, k, h0, hk => by
    simp only [List.length_cons] at h0 hk
    obtain ⟨q, rfl⟩ : ∃ m, k = m + 1 := ⟨k - 1, by omega⟩
    have f := l4Inode_run ro nx i di mv b (a ++ [x]) q (by simp; omega) (by omega)
    rw [List.append_assoc, List.singleton_append, show (((a ++ [x]).length : Nat) : Int) = (a.length : Int) + 1 by simp] at f
    simp only [spec_l4Inode.l0]
    rw [if_pos (by simp; omega), if_pos (by omega), rdA35, w64 (n := (a.length : Int) + 1) (by omega) (by omega), f, ixf]
    by_cases c : x.f0 = i
    · rw [if_pos c, if_pos (by simpa using c)]
    · rw [if_neg c, if_neg (by simpa using c)]
theorem l4Inode_f (ro nx i : Int) (nd : List Nd) (di : List Lk) (mv : List Mv) (h0 : nd.length ≤ 1048676) (k : Nat) (hk : nd.length < k) : spec_l4Inode.f k ro nx nd di mv i = some (ixf i nd 0) := by
  have := l4Inode_run ro nx i di mv nd [] k (by simp; omega) hk
  unfold spec_l4Inode.f
  simpa using this
def atM (s : ByteArray) : List Lk → Int → Int
  | [], _ => -1
  | x :: r, o => if x.f0 = s then o else atM s r (o + 1)
theorem l4At_run (s : ByteArray) : ∀ (b a : List Lk) (k : Nat), a.length + b.length ≤ 2097152 → b.length < k → spec_l4At.l0 k (a ++ b) s (a.length : Int) = some (atM s b a.length)
  | [], a, k, h0, hk => by
    obtain ⟨q, rfl⟩ : ∃ m, k = m + 1 := ⟨k - 1, by omega⟩
    simp only [spec_l4At.l0]; rw [if_neg (by simp)]; rfl
  | x :: b, a, k, h0, hk => by
    simp only [List.length_cons] at h0 hk
    obtain ⟨q, rfl⟩ : ∃ m, k = m + 1 := ⟨k - 1, by omega⟩
    have f := l4At_run s b (a ++ [x]) q (by simp; omega) (by omega)
    rw [List.append_assoc, List.singleton_append, show (((a ++ [x]).length : Nat) : Int) = (a.length : Int) + 1 by simp] at f
    simp only [spec_l4At.l0, tl_iff]
    rw [if_pos (by simp; omega), if_pos (by omega), rdA37, w64 (n := (a.length : Int) + 1) (by omega) (by omega), f, atM]
    split <;> rfl
theorem l4At_f (l : List Lk) (s : ByteArray) (h0 : l.length ≤ 1048676) (k : Nat) (hk : l.length < k) : spec_l4At.f k l s = some (atM s l 0) := by
  have := l4At_run s l [] k (by simp; omega) hk
  unfold spec_l4At.f
  simpa using this
theorem atM_id (s : ByteArray) : ∀ (l : List Lk) (o : Int), 0 ≤ o → (match idM l s with
    | some i => ∃ n : Nat, atM s l o = o + n ∧ n < l.length ∧ (rd_T37 l (n : Int)).f1 = i
    | none => atM s l o = -1)
  | [], o, h => rfl
  | x :: r, o, h => by
    rw [idM, atM]
    by_cases c : x.f0 = s
    · rw [if_pos c, if_pos c]; exact ⟨0, by omega, by simp, rfl⟩
    · rw [if_neg c, if_neg c]
      have ih := atM_id s r (o + 1) (by omega)
      cases hd : idM r s with
      | none => rw [hd] at ih; exact ih
      | some i =>
        rw [hd] at ih
        obtain ⟨n, h1, h2, h3⟩ := ih
        refine ⟨n + 1, by rw [h1]; omega, by rw [List.length_cons]; omega, ?_⟩
        rw [rdL_cons x r _ (by omega), show (((n + 1 : Nat)) : Int) - 1 = (n : Int) by omega]; exact h3
theorem delM_cons (s : ByteArray) (x : Lk) (r : List Lk) : delM s (x :: r) = if x.f0 = s then delM s r else x :: delM s r := by
  unfold delM
  by_cases c : x.f0 = s
  · rw [if_pos c, List.filter_cons_of_neg (by simp [c])]
  · rw [if_neg c, List.filter_cons_of_pos (by
      rw [Bool.not_eq_true', beq_eq_false_iff_ne]; exact fun e => c (tl_iff.1 e))]
theorem l4Without_run (s : ByteArray) : ∀ (b a o : List Lk) (k : Nat), a.length + b.length ≤ 2097152 → o.length ≤ a.length → b.length < k → spec_l4Without.l0 k (a ++ b) s o (a.length : Int) = some (o ++ delM s b)
  | [], a, o, k, h0, ho, hk => by
    obtain ⟨q, rfl⟩ : ∃ m, k = m + 1 := ⟨k - 1, by omega⟩
    simp only [spec_l4Without.l0]; rw [if_neg (by simp)]; simp [delM]
  | x :: b, a, o, k, h0, ho, hk => by
    simp only [List.length_cons] at h0 hk
    obtain ⟨q, rfl⟩ : ∃ m, k = m + 1 := ⟨k - 1, by omega⟩
    simp only [spec_l4Without.l0, tl_iff]
    rw [if_pos (by simp; omega), if_pos (by omega), rdA37, w64 (n := (a.length : Int) + 1) (by omega) (by omega), delM_cons]
    by_cases c : x.f0 = s
    · have f := l4Without_run s b (a ++ [x]) o q (by simp; omega) (by simp; omega) (by omega)
      rw [List.append_assoc, List.singleton_append, show (((a ++ [x]).length : Nat) : Int) = (a.length : Int) + 1 by simp] at f
      rw [if_pos c, if_pos c, f]
    · have f := l4Without_run s b (a ++ [x]) (o ++ [x]) q (by simp; omega) (by simp; omega) (by omega)
      rw [List.append_assoc, List.singleton_append, show (((a ++ [x]).length : Nat) : Int) = (a.length : Int) + 1 by simp] at f
      rw [if_neg c, if_neg c, if_pos (by omega), show (⟨x.f0, x.f1⟩ : Lk) = x from rfl, f]; simp
theorem l4Without_f (l : List Lk) (s : ByteArray) (h0 : l.length ≤ 1048676) (k : Nat) (hk : l.length < k) : spec_l4Without.f k l s = some (delM s l) := by
  have := l4Without_run s l [] [] k (by simp; omega) (by simp) hk
  unfold spec_l4Without.f
  simpa using this
theorem l4With_put (x : Lk) : ∀ (b a o : List Lk) (k : Nat), a.length + b.length ≤ 2097152 → o.length ≤ a.length + 1 → b.length < k → spec_l4With.l0 k (a ++ b) o true (a.length : Int) x.f0 x.f1 = some (o ++ b)
  | [], a, o, k, h0, ho, hk => by
    obtain ⟨q, rfl⟩ : ∃ m, k = m + 1 := ⟨k - 1, by omega⟩
    simp only [spec_l4With.l0]; rw [if_neg (by simp), if_pos trivial]; simp
  | y :: b, a, o, k, h0, ho, hk => by
    simp only [List.length_cons] at h0 hk
    obtain ⟨q, rfl⟩ : ∃ m, k = m + 1 := ⟨k - 1, by omega⟩
    have f := l4With_put x b (a ++ [y]) (o ++ [y]) q (by simp; omega) (by simp; omega) (by omega)
    rw [List.append_assoc, List.singleton_append, show (((a ++ [y]).length : Nat) : Int) = (a.length : Int) + 1 by simp] at f
    simp only [spec_l4With.l0]
    rw [if_pos (by simp; omega), if_pos trivial, if_pos (by omega), if_pos (by omega), rdA37, w64 (n := (a.length : Int) + 1) (by omega) (by omega), show (⟨y.f0, y.f1⟩ : Lk) = y from rfl, f]; simp
theorem l4With_run (x : Lk) : ∀ (b a o : List Lk) (k : Nat), a.length + b.length ≤ 2097152 → o.length ≤ a.length → (∀ y ∈ b, y.f0 ≠ x.f0) → b.length < k → spec_l4With.l0 k (a ++ b) o false (a.length : Int) x.f0 x.f1 = some (o ++ insR b x)
  | [], a, o, k, h0, ho, hn, hk => by
    obtain ⟨q, rfl⟩ : ∃ m, k = m + 1 := ⟨k - 1, by omega⟩
    simp only [spec_l4With.l0]; rw [if_neg (by simp), if_neg (by decide), if_pos (by simp only [List.length_nil] at h0; omega)]; rfl
  | y :: b, a, o, k, h0, ho, hn, hk => by
    simp only [List.length_cons] at h0 hk
    obtain ⟨q, rfl⟩ : ∃ m, k = m + 1 := ⟨k - 1, by omega⟩
    have hy := hn y List.mem_cons_self
    have h3 : cmpS y.f0 x.f0 ≠ 0 := fun h => hy (cs_eq h)
    have h4 := cs_swap y.f0 x.f0
    simp only [spec_l4With.l0, bl_s]
    rw [if_pos (by simp; omega), if_neg (by decide), if_pos (by omega), rdA37, w64 (n := (a.length : Int) + 1) (by omega) (by omega), insR]
    by_cases c : cmpS y.f0 x.f0 < 0
    · have f := l4With_run x b (a ++ [y]) (o ++ [y]) q (by simp; omega) (by simp; omega) (fun z hz => hn z (List.mem_cons_of_mem _ hz)) (by omega)
      rw [List.append_assoc, List.singleton_append, show (((a ++ [y]).length : Nat) : Int) = (a.length : Int) + 1 by simp] at f
      rw [if_neg (by omega), if_pos (by omega), if_pos c, show (⟨y.f0, y.f1⟩ : Lk) = y from rfl, f]; simp
    · have f := l4With_put x b (a ++ [y]) (o ++ [x] ++ [y]) q (by simp; omega) (by simp; omega) (by omega)
      rw [List.append_assoc, List.singleton_append, show (((a ++ [y]).length : Nat) : Int) = (a.length : Int) + 1 by simp] at f
      rw [if_pos (by omega), if_pos (by omega), if_neg c]
      simp only [Option.bind_some]
      rw [if_pos (by simp; omega), show (⟨y.f0, y.f1⟩ : Lk) = y from rfl, show (⟨x.f0, x.f1⟩ : Lk) = x from rfl, f]; simp
theorem l4With_f (l : List Lk) (x0 : ByteArray) (x1 : Int) (h0 : l.length ≤ 1048676) (k : Nat) (hk : l.length < k) : spec_l4With.f k l x0 x1 = some (insR (delM x0 l) ⟨x0, x1⟩) := by
  have hd := delM_length x0 l
  unfold spec_l4With.f
  rw [l4Without_f l x0 h0 k hk]
  simp only [Option.bind_some]
  have := l4With_run ⟨x0, x1⟩ (delM x0 l) [] [] k (by simp; omega) (by simp) (fun y hy => delM_ne x0 l y hy) (by omega)
  simpa using this
theorem l4Apply_f (l : List Lk) (m : Mv) (h0 : l.length ≤ 1048650) (hm1 : m.f1.size ≤ 1048676) (hm2 : m.f2.size ≤ 1048676) (k : Nat) (hk : 1048690 < k) : spec_l4Apply.f k l m.f0 m.f1 m.f2 m.f3 = some (match appM l m with | some l' => (l', true) | none => (l, false)) := by
  obtain ⟨q, rfl⟩ : ∃ m, k = m + 1 := ⟨k - 1, by omega⟩
  obtain ⟨p, rfl⟩ : ∃ m, q = m + 1 := ⟨q - 1, by omega⟩
  have A := atM_id m.f1 l 0 (by omega)
  unfold spec_l4Apply.f
  rw [l4At_f l m.f1 (by omega) _ (by omega), l4Name_f m.f1 hm1 _ (by omega)]
  simp only [Option.bind_some, tl_nil]
  unfold appM
  by_cases hn : nameM m.f1 = true
  · rw [if_pos hn, if_pos hn]
    have key1 : ∀ b, spec_l4Apply.j1 (p + 1) l (atM m.f1 l 0) b m.f0 m.f1 m.f2 m.f3 = if b = true then ((spec_l4Without.f p l m.f1).bind fun t184 => (if 0 ≤ (atM m.f1 l 0) then (if (atM m.f1 l 0) < (l.length : Int) then ((spec_l4With.f p t184 m.f2 ((rd_T37 l (atM m.f1 l 0)).f1)).bind fun t188 => (some (t188, true))) else (none)) else (none))) else (if m.f0 = 3 then (if m.f3 = 0 then (if m.f2.size = 0 then (if atM m.f1 l 0 ≥ 0 then some (delM m.f1 l, true) else (some (l, false))) else (some (l, false))) else (some (l, false))) else (some (l, false))) := by
      intro b
      simp only [spec_l4Apply.j1, tl_nil]
      rw [l4Without_f l m.f1 (by omega) p (by omega)]
      simp only [Option.bind_some]
    by_cases h1 : m.f0 = 1
    · rw [if_pos h1, if_pos h1]
      have j1 : ∀ b, spec_l4Apply.j0 (p + 1 + 1) l (atM m.f1 l 0) b m.f0 m.f1 m.f2 m.f3 = if b = true then some (insR (delM m.f1 l) ⟨m.f1, m.f3⟩, true) else some (l, false) := by
        intro b
        simp only [spec_l4Apply.j0]
        rw [l4With_f l m.f1 m.f3 (by omega) _ (by omega), if_neg (show ¬ m.f0 = 2 by omega), key1, if_neg (show ¬ (false = true) by decide), if_neg (show ¬ m.f0 = 3 by omega)]
        rfl
      rw [j1, j1]
      by_cases h2 : m.f2.size = 0
      · rw [if_pos h2]
        cases hd : idM l m.f1 with
        | none => rw [hd] at A; rw [A, if_pos (by decide), if_pos ⟨rfl, h2⟩]
        | some i =>
          rw [hd] at A
          obtain ⟨n, a1, a2, a3⟩ := A
          rw [if_neg (by rw [a1, decide_eq_true_eq]; omega), if_neg (fun h => by cases h.1)]
      · rw [if_neg h2, if_neg (show ¬ (false = true) by decide), if_neg (fun h => h2 h.2)]
    · rw [if_neg h1, if_neg h1]
      simp only [spec_l4Apply.j0]
      rw [if_neg (show ¬ (false = true) by decide)]
      by_cases h2 : m.f0 = 2
      · rw [if_pos h2, if_pos h2, l4Name_f m.f2 hm2 _ (by omega)]
        simp only [Option.bind_some, key1]
        rw [if_neg (show ¬ m.f0 = 3 by omega)]
        cases hd : idM l m.f1 with
        | none =>
          rw [hd] at A
          rw [A, if_neg (show ¬ ((-1 : Int) ≥ 0) by decide), if_neg (show ¬ (false = true) by decide)]
          split <;> rfl
        | some i =>
          rw [hd] at A
          obtain ⟨n, a1, a2, a3⟩ := A
          rw [if_pos (show atM m.f1 l 0 ≥ 0 by omega), if_neg (show ¬ (false = true) by decide), l4Without_f l m.f1 (by omega) p (by omega)]
          have hdl := delM_length m.f1 l
          simp only [Option.bind_some]
          rw [if_pos (show 0 ≤ atM m.f1 l 0 by omega), if_pos (show atM m.f1 l 0 < (l.length : Int) by omega), l4With_f (delM m.f1 l) m.f2 _ (by omega) p (by omega), show (rd_T37 l (atM m.f1 l 0)).f1 = i by rw [a1, show (0 : Int) + (n : Int) = n by omega]; exact a3]
          simp only [Option.bind_some]
          by_cases c1 : m.f3 = 0
          · rw [if_pos c1]
            by_cases c2 : nameM m.f2 = true
            · rw [if_pos c2]
              by_cases c3 : m.f2 = m.f1
              · rw [if_neg (show ¬ ((m.f2.toList != m.f1.toList) = true) by rw [bne_iff_ne]; exact fun h => h (tl_iff.2 c3)), if_neg (show ¬ (m.f3 = 0 ∧ nameM m.f2 = true ∧ m.f2 ≠ m.f1) from fun h => h.2.2 c3)]
              · rw [if_pos (show (m.f2.toList != m.f1.toList) = true by rw [bne_iff_ne]; exact fun h => c3 (tl_iff.1 h)), if_pos (show (m.f3 = 0 ∧ nameM m.f2 = true ∧ m.f2 ≠ m.f1) from ⟨c1, c2, c3⟩)]
            · rw [if_neg c2, if_neg (show ¬ (m.f3 = 0 ∧ nameM m.f2 = true ∧ m.f2 ≠ m.f1) from fun h => c2 h.2.1)]
          · rw [if_neg c1, if_neg (show ¬ (m.f3 = 0 ∧ nameM m.f2 = true ∧ m.f2 ≠ m.f1) from fun h => c1 h.1)]
      · rw [if_neg h2, if_neg h2, key1, if_neg (show ¬ (false = true) by decide)]
        by_cases h3 : m.f0 = 3
        · rw [if_pos h3, if_pos h3]
          cases hd : idM l m.f1 with
          | none =>
            rw [hd] at A
            rw [A, if_neg (show ¬ ((-1 : Int) ≥ 0) by decide), if_neg (show ¬ ((none : Option Int) ≠ none ∧ m.f2.size = 0 ∧ m.f3 = 0) from fun h => h.1 rfl)]
            split
            · split <;> rfl
            · rfl
          | some i =>
            rw [hd] at A
            obtain ⟨n, a1, a2, a3⟩ := A
            rw [if_pos (show atM m.f1 l 0 ≥ 0 by omega)]
            by_cases c1 : m.f3 = 0
            · rw [if_pos c1]
              by_cases c2 : m.f2.size = 0
              · rw [if_pos c2, if_pos (show (some i ≠ none ∧ m.f2.size = 0 ∧ m.f3 = 0) from ⟨(fun h => by cases h), c2, c1⟩)]
              · rw [if_neg c2, if_neg (show ¬ (some i ≠ none ∧ m.f2.size = 0 ∧ m.f3 = 0) from fun h => c2 h.2.1)]
            · rw [if_neg c1, if_neg (show ¬ (some i ≠ none ∧ m.f2.size = 0 ∧ m.f3 = 0) from fun h => c1 h.2.2)]
        · rw [if_neg h3, if_neg h3]
  · rw [if_neg hn, if_neg hn]

def prevN : List Nd → Option Int
  | [] => none
  | x :: r => match prevN r with | none => some x.f0 | some v => some v
theorem prevN_snoc : ∀ (a : List Nd) (x : Nd), prevN (a ++ [x]) = some x.f0
  | [], x => rfl
  | y :: r, x => by rw [List.cons_append, prevN, prevN_snoc r x]
theorem snoc_of {α : Type} (l : List α) (h : l ≠ []) : ∃ a x, l = a ++ [x] := ⟨l.dropLast, l.getLast h, (List.dropLast_concat_getLast h).symm⟩
def nodOwn (di : List Lk) (mv : List Mv) (l : List Nd) : Bool := l.all fun x => decide (x.f0 ∈ di.map (fun y => y.f1)) || decide (x.f0 ∈ madeM mv)
def prevL : List Lk → Option ByteArray
  | [] => none
  | x :: r => match prevL r with | none => some x.f0 | some v => some v
theorem prevL_snoc : ∀ (a : List Lk) (x : Lk), prevL (a ++ [x]) = some x.f0
  | [], x => rfl
  | y :: r, x => by rw [List.cons_append, prevL, prevL_snoc r x]
theorem sDisk_l2 (ro nx : Int) (nd : List Nd) (di : List Lk) (h0 : nd.length ≤ 1048600) (h1 : di.length ≤ 1048590) (mvs : List Mv) (h2 : mvs.length ≤ 20) (hs : ∀ m ∈ mvs, m.f1.size ≤ 1048676 ∧ m.f2.size ≤ 1048676) : ∀ (b a : List Mv) (l : List Lk) (k : Nat), a ++ b = mvs → Srt l → l.length ≤ di.length + a.length → 2 * b.length + 1048700 < k →
    spec_DiskOk.l2 k l (a.length : Int) ro nx nd di mvs = some (mvsR nd (di.map (fun y => y.f1) ++ madeM a) l b).isSome
  | [], a, l, k, e, hl, hll, hk => by
    obtain ⟨q, rfl⟩ : ∃ m, k = m + 1 := ⟨k - 1, by omega⟩
    subst e
    simp only [spec_DiskOk.l2]
    rw [if_neg (by simp)]; rfl
  | m :: b, a, l, k, e, hl, hll, hk => by
    simp only [List.length_cons] at hk
    have hlen := congrArg List.length e
    rw [List.length_append, List.length_cons] at hlen
    obtain ⟨q, rfl⟩ : ∃ m, k = m + 1 := ⟨k - 1, by omega⟩
    obtain ⟨p, rfl⟩ : ∃ m, q = m + 1 := ⟨q - 1, by omega⟩
    have hrd : rd_T39 mvs (a.length : Int) = m := by rw [← e]; exact rdA39 a m b
    have hm := hs m (by rw [← e]; simp)
    have htk : mvs.take ((a.length : Int)).toNat = a := by rw [← e, show ((a.length : Int)).toNat = a.length by omega, List.take_left' rfl]
    have hmade : madeM (a ++ [m]) = if m.f0 = 1 then madeM a ++ [m.f3] else madeM a := by
      unfold madeM
      rw [List.filter_append, List.map_append]
      by_cases c : m.f0 = 1
      · rw [if_pos c]; simp [c]
      · rw [if_neg c]; simp [c]
    have key : ∀ t, spec_DiskOk.j4 (p + 1) l (a.length : Int) t ro nx nd di mvs m.f0 m.f1 m.f2 m.f3 = if t = true then some false else (match appM l m with | some l' => spec_DiskOk.l2 p l' ((a.length : Int) + 1) ro nx nd di mvs | none => some false) := by
      intro t
      simp only [spec_DiskOk.j4]
      rw [l4Apply_f l m (by omega) hm.1 hm.2 p (by omega)]
      simp only [Option.bind_some]
      cases appM l m with
      | none => simp
      | some l' =>
        simp only []
        rw [if_pos trivial, w64 (n := (a.length : Int) + 1) (by omega) (by omega)]
    have ih : ∀ l', appM l m = some l' → spec_DiskOk.l2 p l' ((a.length : Int) + 1) ro nx nd di mvs = some (mvsR nd (di.map (fun y => y.f1) ++ madeM (a ++ [m])) l' b).isSome := by
      intro l' hl'
      have f := sDisk_l2 ro nx nd di h0 h1 mvs h2 hs b (a ++ [m]) l' p (by rw [List.append_assoc]; exact e) (appM_srt hl hl') (by have := appM_length hl'; simp; omega) (by omega)
      rw [show (((a ++ [m]).length : Nat) : Int) = (a.length : Int) + 1 by simp] at f
      exact f
    simp only [spec_DiskOk.l2]
    rw [if_pos (by omega), if_pos (by omega), hrd]
    simp only [key, htk]
    rw [l4Inode_f ro nx m.f3 nd di mvs (by omega) (p + 1) (by omega)]
    simp only [Option.bind_some]
    rw [l4Linked_f di m.f3 (by omega) (p + 1) (by omega), l4Made_f a m.f3 (by omega) (p + 1) (by omega)]
    simp only [Option.bind_some]
    rw [if_pos (show (a.length : Int) ≤ (mvs.length : Int) by omega), if_pos trivial, if_neg (show ¬ (false = true) by decide), mvsR]
    by_cases c : m.f0 = 1
    · rw [if_pos c]
      cases hap : appM l m with
      | none => simp only [Option.isSome_none]; (repeat' split); all_goals rfl
      | some l' =>
        have f := ih l' hap
        rw [hmade, if_pos c, ← List.append_assoc] at f
        simp only [f]
        rw [if_pos c]
        rcases ixf_range m.f3 nd 0 (by omega) with ⟨r1, r2⟩ | ⟨r1, r2, r3⟩
        · rw [if_pos (by omega), if_neg (fun h => by rw [r2] at h; cases h.1)]; rfl
        · rw [if_neg (by omega)]
          by_cases c2 : m.f3 ∈ di.map (fun y => y.f1)
          · rw [if_pos (decide_eq_true c2), if_neg (fun h => h.2 (List.mem_append.2 (.inl c2)))]; rfl
          · rw [if_neg (by rw [decide_eq_true_eq]; exact c2)]
            by_cases c3 : m.f3 ∈ madeM a
            · rw [if_pos (decide_eq_true c3), if_neg (fun h => h.2 (List.mem_append.2 (.inr c3)))]; rfl
            · rw [if_neg (by rw [decide_eq_true_eq]; exact c3), if_pos ⟨r3, fun h => (List.mem_append.1 h).elim c2 c3⟩]
    · rw [if_neg c]
      cases hap : appM l m with
      | none => rfl
      | some l' =>
        have f := ih l' hap
        rw [hmade, if_neg c] at f
        simp only [f]
        rw [if_neg c]
theorem sDisk_l1 (ro nx : Int) (nd : List Nd) (di : List Lk) (h0 : nd.length ≤ 1048600) (h1 : di.length ≤ 1048590) (hd : ∀ x ∈ di, x.f0.size ≤ 1048676) (mvs : List Mv) (h2 : mvs.length ≤ 20) (hs : ∀ m ∈ mvs, m.f1.size ≤ 1048676 ∧ m.f2.size ≤ 1048676) : ∀ (b a : List Lk) (k : Nat), a ++ b = di → (∀ R, dirR nd (prevL a) (a.map fun y => y.f1) b = true → R = (a ++ b) → Srt R) → b.length + 1048800 < k →
    spec_DiskOk.l1 k (a.length : Int) ro nx nd di mvs = some (dirR nd (prevL a) (a.map fun y => y.f1) b && (mvsR nd (di.map fun y => y.f1) di mvs).isSome)
  | [], a, k, e, hR, hk => by
    obtain ⟨q, rfl⟩ : ∃ m, k = m + 1 := ⟨k - 1, by omega⟩
    have ha : a = di := by simpa using e
    subst ha
    have hsrt := hR a (by simp [dirR]) (by simp)
    simp only [spec_DiskOk.l1]
    rw [if_neg (by simp)]
    simp only [Option.bind_some, List.nil_append, List.length_nil]
    rw [if_pos (by omega)]
    have f := sDisk_l2 ro nx nd a h0 h1 mvs h2 hs mvs [] a q (by simp) hsrt (by simp) (by omega)
    simp only [List.length_nil] at f
    rw [show ((0 : Nat) : Int) = 0 from rfl] at f
    rw [f]; simp [dirR, madeM]
  | x :: b, a, k, e, hR, hk => by
    simp only [List.length_cons] at hk
    have hlen := congrArg List.length e
    rw [List.length_append, List.length_cons] at hlen
    obtain ⟨q, rfl⟩ : ∃ m, k = m + 1 := ⟨k - 1, by omega⟩
    have hrd : rd_T37 di (a.length : Int) = x := by rw [← e]; exact rdA37 a x b
    have hx := hd x (by rw [← e]; simp)
    have htk : di.take ((a.length : Int)).toNat = a := by rw [← e, show ((a.length : Int)).toNat = a.length by omega, List.take_left' rfl]
    have ih := fun hh => sDisk_l1 ro nx nd di h0 h1 hd mvs h2 hs b (a ++ [x]) q (by rw [List.append_assoc]; exact e) hh (by omega)
    rw [show (((a ++ [x]).length : Nat) : Int) = (a.length : Int) + 1 by simp, prevL_snoc, List.map_append, List.map_singleton] at ih
    have hdir : dirR nd (prevL a) (a.map fun y => y.f1) (x :: b) = (nameM x.f0 && (match prevL a with | none => true | some q => decide (cmpS q x.f0 < 0)) && hasM nd x.f1 && !(decide (x.f1 ∈ a.map fun y => y.f1)) && dirR nd (some x.f0) ((a.map fun y => y.f1) ++ [x.f1]) b) := by
      cases prevL a <;> rfl
    simp only [spec_DiskOk.l1]
    rw [if_pos (by omega), if_pos (by omega), hrd, htk]
    rw [l4Name_f x.f0 (by omega) q (by omega), l4Inode_f ro nx x.f1 nd di mvs (by omega) q (by omega), l4Linked_f a x.f1 (by omega) q (by omega)]
    simp only [Option.bind_some]
    rw [w64 (n := (a.length : Int) + 1) (by omega) (by omega), w64 (n := (a.length : Int) - 1) (by omega) (by omega), if_pos (show (a.length : Int) ≤ (di.length : Int) by omega)]
    rw [hdir] at hR ⊢
    by_cases hn : nameM x.f0 = true
    · rw [if_pos hn, hn, Bool.true_and]
      rw [hn, Bool.true_and] at hR
      have tail : ∀ (P : Bool), P = true → (match prevL a with | none => true | some q => decide (cmpS q x.f0 < 0)) = P → (if ixf x.f1 nd 0 < 0 then some false else if decide (x.f1 ∈ a.map fun y => y.f1) = true then some false else spec_DiskOk.l1 q ((a.length : Int) + 1) ro nx nd di mvs) = some ((match prevL a with | none => true | some q => decide (cmpS q x.f0 < 0)) && hasM nd x.f1 && !(decide (x.f1 ∈ a.map fun y => y.f1)) && dirR nd (some x.f0) ((a.map fun y => y.f1) ++ [x.f1]) b && (mvsR nd (di.map fun y => y.f1) di mvs).isSome) := by
        intro P hP hQ
        rw [hQ, hP] at hR ⊢
        rw [Bool.true_and] at hR ⊢
        rcases ixf_range x.f1 nd 0 (by omega) with ⟨r1, r2⟩ | ⟨r1, r2, r3⟩
        · rw [if_pos (by omega), r2]; rfl
        · rw [if_neg (by omega), r3, Bool.true_and]
          rw [r3, Bool.true_and] at hR
          by_cases c2 : x.f1 ∈ a.map fun y => y.f1
          · rw [if_pos (decide_eq_true c2), decide_eq_true c2]; rfl
          · rw [if_neg (by rw [decide_eq_true_eq]; exact c2), decide_eq_false c2, ih (fun R h1 h2 => hR R (by rw [decide_eq_false c2]; simpa using h1) (by rw [h2]; simp))]
            rfl
      by_cases ha : a = []
      · subst ha
        rw [if_neg (by simp)]
        exact tail true rfl rfl
      · obtain ⟨a', y, rfl⟩ := snoc_of a ha
        have hrd2 : rd_T37 di (((a' ++ [y]).length : Int) - 1) = y := by
          rw [← e, List.append_assoc, List.singleton_append, show (((a' ++ [y]).length : Nat) : Int) - 1 = (a'.length : Int) by simp]; exact rdA37 a' y (x :: b)
        rw [if_pos (by rw [List.length_append, List.length_singleton]; omega), if_pos (by simp), if_pos (by omega), hrd2]
        simp only [bl_s]
        by_cases c : cmpS y.f0 x.f0 < 0
        · rw [if_pos c]
          exact tail true rfl (by rw [prevL_snoc]; exact decide_eq_true c)
        · rw [if_neg c, prevL_snoc]
          simp only []
          rw [decide_eq_false c]; rfl
    · rw [if_neg hn, Bool.eq_false_iff.mpr hn]; rfl
theorem sDisk_l0 (ro nx : Int) (nd : List Nd) (di : List Lk) (n0 : 1 ≤ nx) (n1 : nx ≤ 1000000) (h0 : nd.length ≤ 10) (hz : ∀ x ∈ nd, x.f1.size ≤ 1048676) (h1 : di.length ≤ 10) (hd : ∀ x ∈ di, x.f0.size ≤ 1048676) (mvs : List Mv) (h2 : mvs.length ≤ 20) (hs : ∀ m ∈ mvs, m.f1.size ≤ 1048676 ∧ m.f2.size ≤ 1048676) : ∀ (b a : List Nd) (k : Nat), a ++ b = nd → b.length + 1048900 < k →
    spec_DiskOk.l0 k (a.length : Int) ro nx nd di mvs = some (nodR nx (prevN a) b && nodOwn di mvs b && (dirR nd none [] di && (mvsR nd (di.map fun y => y.f1) di mvs).isSome))
  | [], a, k, e, hk => by
    obtain ⟨q, rfl⟩ : ∃ m, k = m + 1 := ⟨k - 1, by omega⟩
    have ha : a = nd := by simpa using e
    subst ha
    simp only [spec_DiskOk.l0]
    rw [if_neg (by simp)]
    have f := sDisk_l1 ro nx a di (by omega) (by omega) hd mvs h2 hs di [] q (by simp) (fun R h e => by rw [e]; exact (dirR_srt a di none [] h).1) (by omega)
    simp only [List.length_nil] at f
    rw [show ((0 : Nat) : Int) = 0 from rfl] at f
    rw [f]; simp [nodR, nodOwn, prevL]
  | x :: b, a, k, e, hk => by
    simp only [List.length_cons] at hk
    have hlen := congrArg List.length e
    rw [List.length_append, List.length_cons] at hlen
    obtain ⟨q, rfl⟩ : ∃ m, k = m + 1 := ⟨k - 1, by omega⟩
    have hrd : rd_T35 nd (a.length : Int) = x := by rw [← e]; exact rdA35 a x b
    have hx := hz x (by rw [← e]; simp)
    have ih := sDisk_l0 ro nx nd di n0 n1 h0 hz h1 hd mvs h2 hs b (a ++ [x]) q (by rw [List.append_assoc]; exact e) (by omega)
    rw [show (((a ++ [x]).length : Nat) : Int) = (a.length : Int) + 1 by simp, prevN_snoc] at ih
    have hnod : nodR nx (prevN a) (x :: b) = (decide (1 ≤ x.f0 ∧ x.f0 ≤ nx - 1) && (match prevN a with | none => true | some q => decide (q < x.f0)) && decide (0 ≤ x.f2 ∧ x.f2 ≤ (x.f1.size : Int)) && nodR nx (some x.f0) b) := by
      cases prevN a <;> rfl
    have hown : nodOwn di mvs (x :: b) = ((decide (x.f0 ∈ di.map (fun y => y.f1)) || decide (x.f0 ∈ madeM mvs)) && nodOwn di mvs b) := rfl
    simp only [spec_DiskOk.l0]
    rw [if_pos (by omega), if_pos (by omega), hrd, spec_l1In_run, spec_l1In_run]
    simp only [Option.bind_some, decide_eq_true_eq]
    rw [l4Linked_f di x.f0 (by omega) q (by omega), l4Made_f mvs x.f0 (by omega) q (by omega)]
    simp only [Option.bind_some, decide_eq_true_eq]
    rw [w64 (n := nx - 1) (by omega) (by omega), w64 (n := (a.length : Int) + 1) (by omega) (by omega), w64 (n := (a.length : Int) - 1) (by omega) (by omega), ih, hnod, hown]
    generalize nodR nx (some x.f0) b = A
    generalize nodOwn di mvs b = B
    generalize (dirR nd none [] di && (mvsR nd (di.map fun y => y.f1) di mvs).isSome) = C
    have own : (if x.f0 ∈ di.map (fun y => y.f1) then some (A && B && C) else if x.f0 ∈ madeM mvs then some (A && B && C) else some false) = some (A && ((decide (x.f0 ∈ di.map (fun y => y.f1)) || decide (x.f0 ∈ madeM mvs)) && B) && C) := by
      by_cases c1 : x.f0 ∈ di.map (fun y => y.f1)
      · rw [if_pos c1, decide_eq_true c1]; rfl
      · rw [if_neg c1, decide_eq_false c1, Bool.false_or]
        by_cases c2 : x.f0 ∈ madeM mvs
        · rw [if_pos c2, decide_eq_true c2]; rfl
        · rw [if_neg c2, decide_eq_false c2]; simp
    by_cases c1 : 1 ≤ x.f0 ∧ x.f0 ≤ nx - 1
    · rw [if_pos c1, decide_eq_true c1, Bool.true_and]
      by_cases c2 : 0 ≤ x.f2 ∧ x.f2 ≤ (x.f1.size : Int)
      · rw [if_pos c2, decide_eq_true c2, Bool.and_true]
        by_cases ha : a = []
        · subst ha
          rw [if_neg (by simp), own]; rfl
        · obtain ⟨a', y, rfl⟩ := snoc_of a ha
          have hrd2 : rd_T35 nd (((a' ++ [y]).length : Int) - 1) = y := by
            rw [← e, List.append_assoc, List.singleton_append, show (((a' ++ [y]).length : Nat) : Int) - 1 = (a'.length : Int) by simp]; exact rdA35 a' y (x :: b)
          rw [if_pos (by rw [List.length_append, List.length_singleton]; omega), if_pos (by simp), if_pos (by omega), hrd2, prevN_snoc]
          simp only []
          by_cases c3 : y.f0 < x.f0
          · rw [if_neg (by omega), own, decide_eq_true c3, Bool.true_and]
          · rw [if_pos (by omega), decide_eq_false c3]; rfl
      · rw [if_neg c2, decide_eq_false c2]; simp
    · rw [if_neg c1, decide_eq_false c1]; simp
theorem sDiskOk_f (ro nx : Int) (nd : List Nd) (di : List Lk) (mvs : List Mv) (h0 : nd.length ≤ 1048600) (hz : ∀ x ∈ nd, x.f1.size ≤ 1048676) (h1 : di.length ≤ 1048590) (hd : ∀ x ∈ di, x.f0.size ≤ 1048676) (h2 : mvs.length ≤ 1048600) (hs : ∀ m ∈ mvs, m.f1.size ≤ 1048676 ∧ m.f2.size ≤ 1048676) (k : Nat) (hk : 2097300 < k) : spec_DiskOk.f k ro nx nd di mvs = some (okM ro nx nd di mvs) := by
  obtain ⟨q, rfl⟩ : ∃ m, k = m + 1 := ⟨k - 1, by omega⟩
  have key : ∀ t, spec_DiskOk.j0 (q + 1) t ro nx nd di mvs = if t = true then some false else (if usedR nd > ro then some false else spec_DiskOk.l0 q 0 ro nx nd di mvs) := by
    intro t
    simp only [spec_DiskOk.j0]
    rw [l4Bytes_f ro nx nd di mvs (by omega) (fun x hx => by have := hz x hx; omega) q (by omega)]
    simp only [Option.bind_some]
  have O := okM_spec ro nx nd di mvs
  have no : ∀ {p : Prop}, ¬ p → ((okM ro nx nd di mvs = true) → p) → okM ro nx nd di mvs = false := fun hp h => Bool.eq_false_iff.mpr (fun hh => hp (h hh))
  unfold spec_DiskOk.f
  rw [spec_l1In_run, spec_l1In_run]
  simp only [Option.bind_some, decide_eq_true_eq, key]
  by_cases c1 : 0 ≤ ro ∧ ro ≤ 1048576
  · rw [if_pos c1]
    by_cases c2 : 1 ≤ nx ∧ nx ≤ 1000000
    · rw [if_pos c2]
      by_cases c3 : (nd.length : Int) ≤ 10
      · rw [if_neg (show ¬ ((nd.length : Int) > 10) by omega)]
        by_cases c4 : (mvs.length : Int) ≤ 20
        · rw [if_neg (show ¬ ((mvs.length : Int) > 20) by omega)]
          by_cases c5 : (di.length : Int) ≤ 10
          · rw [if_neg (by omega)]
            by_cases c6 : usedM nd ≤ ro
            · rw [if_neg (by rw [← usedM_eq]; omega)]
              have f := sDisk_l0 ro nx nd di c2.1 c2.2 (by omega) hz (by omega) hd mvs (by omega) hs nd [] q (by simp) (by omega)
              simp only [List.length_nil] at f
              rw [show ((0 : Nat) : Int) = 0 from rfl] at f
              rw [f]
              congr 1
              rw [Bool.eq_iff_iff, O]
              simp only [Bool.and_eq_true, prevN, nodOwn, List.all_eq_true, Bool.or_eq_true, decide_eq_true_eq]
              exact ⟨fun ⟨⟨g1, g2⟩, g3, g4⟩ => ⟨c1, c2, c3, c4, c5, c6, g1, g2, g3, g4⟩, fun ⟨_, _, _, _, _, _, g1, g2, g3, g4⟩ => ⟨⟨g1, g2⟩, g3, g4⟩⟩
            · rw [if_pos (by rw [← usedM_eq]; omega), no c6 (fun h => (O.1 h).2.2.2.2.2.1)]
          · rw [if_pos (by omega), no c5 (fun h => (O.1 h).2.2.2.2.1)]
        · rw [if_pos (show ((mvs.length : Int) > 20) by omega), no c4 (fun h => (O.1 h).2.2.2.1)]
          rfl
      · rw [if_pos (show ((nd.length : Int) > 10) by omega), no c3 (fun h => (O.1 h).2.2.1)]
        rfl
    · rw [if_neg c2, no c2 (fun h => (O.1 h).2.1)]
      rfl
  · rw [if_neg c1, no c1 (fun h => (O.1 h).1)]
    rfl

theorem nameOk_run (s : ByteArray) (hs : s.size ≤ 1048676) : ∀ (d k : Nat) (i : Int), 0 ≤ i → i + d = s.size → d < k → impl_nameOk.l0 k s (s.size : Int) i = some (((bytesOf s).drop i.toNat).all nameB && decide (1 ≤ (s.size : Int) ∧ (s.size : Int) ≤ 12)) := by
  intro d
  induction d with
  | zero =>
    intro k i h0 h1 hk
    obtain ⟨q, rfl⟩ : ∃ m, k = m + 1 := ⟨k - 1, by omega⟩
    simp only [impl_nameOk.l0]
    rw [if_neg (by omega), List.drop_of_length_le (by rw [bytesOf_length]; omega), impl_from_run]; rfl
  | succ d ih =>
    intro k i h0 h1 hk
    obtain ⟨q, rfl⟩ : ∃ m, k = m + 1 := ⟨k - 1, by omega⟩
    have f := ih q (i + 1) (by omega) (by omega) (by omega)
    simp only [impl_nameOk.l0]
    rw [if_pos (by omega), if_pos h0, if_pos (by omega), w64 (n := i + 1) (by omega) (by omega), f, bt_drop h0 (by omega), List.all_cons, show (i + 1).toNat = i.toNat + 1 by omega]
    generalize bt s i = v
    generalize ((bytesOf s).drop (i.toNat + 1)).all nameB = R
    generalize decide (1 ≤ (s.size : Int) ∧ (s.size : Int) ≤ 12) = E
    have e : nameB v = decide ((97 ≤ v ∧ v ≤ 122) ∨ (48 ≤ v ∧ v ≤ 57) ∨ v = 46) := rfl
    by_cases hv : (97 ≤ v ∧ v ≤ 122) ∨ (48 ≤ v ∧ v ≤ 57) ∨ v = 46
    · rw [e, decide_eq_true hv, Bool.true_and]
      repeat' split
      all_goals (first | rfl | (exfalso; omega))
    · rw [e, decide_eq_false hv, Bool.false_and, Bool.false_and]
      repeat' split
      all_goals (first | rfl | (exfalso; omega))
theorem nameOk_f (s : ByteArray) (hs : s.size ≤ 1048676) (k : Nat) (hk : s.size < k) : impl_nameOk.f k s = some (nameM s) := by
  unfold impl_nameOk.f
  rw [nameOk_run s hs s.size k 0 (by omega) (by omega) hk, nameM, Bool.and_comm]; rfl
theorem index_run (v : Int) : ∀ (b a : List Int) (k : Nat), a.length + b.length ≤ 2097152 → b.length < k → ∃ n, slices_Index_int_int.l0 k (a ++ b) v (((a ++ b).length : Nat) : Int) (a.length : Int) = some n ∧ (0 ≤ n ↔ v ∈ b)
  | [], a, k, h0, hk => by
    obtain ⟨q, rfl⟩ : ∃ m, k = m + 1 := ⟨k - 1, by omega⟩
    simp only [slices_Index_int_int.l0]; rw [if_neg (by simp)]; exact ⟨_, rfl, by simp⟩
  | x :: b, a, k, h0, hk => by
    simp only [List.length_cons] at h0 hk
    obtain ⟨q, rfl⟩ : ∃ m, k = m + 1 := ⟨k - 1, by omega⟩
    obtain ⟨n, f, g⟩ := index_run v b (a ++ [x]) q (by simp; omega) (by omega)
    rw [List.append_assoc, List.singleton_append, show (((a ++ [x]).length : Nat) : Int) = (a.length : Int) + 1 by simp] at f
    have hrd : rd (a ++ x :: b) (a.length : Int) = x := by simp [rd, List.getD]
    simp only [slices_Index_int_int.l0]
    rw [if_pos (by simp; omega), if_pos (by omega), if_pos (by simp; omega), hrd, w64 (n := (a.length : Int) + 1) (by omega) (by omega), f]
    by_cases c : v = x
    · rw [if_pos c]; exact ⟨_, rfl, by subst c; exact ⟨fun _ => List.mem_cons_self, fun _ => by omega⟩⟩
    · rw [if_neg c]; exact ⟨n, rfl, by rw [g, List.mem_cons]; exact ⟨fun h => .inr h, fun h => h.resolve_left c⟩⟩
theorem contains_f (l : List Int) (v : Int) (h0 : l.length ≤ 1048676) (k : Nat) (hk : l.length < k) : slices_Contains_int_int.f k l v = some (decide (v ∈ l)) := by
  obtain ⟨n, f, g⟩ := index_run v l [] k (by simp; omega) hk
  unfold slices_Contains_int_int.f slices_Index_int_int.f
  rw [List.nil_append] at f
  rw [show (0 : Int) = ((([] : List Int).length : Nat) : Int) from rfl, f]
  simp only [Option.bind_some]
  congr 1
  rw [Bool.eq_iff_iff, decide_eq_true_eq, decide_eq_true_eq]; exact g
theorem linkAt_f (l : List Lk) (s : ByteArray) (hs : Srt l) (h0 : l.length ≤ 1048676) : impl_linkAt.f l s = some ((posM l s : Int), (idM l s).isSome) := by
  have hp := posM_le l s
  unfold impl_linkAt.f
  rw [if_pos (by omega), bsn_pos l s hs l.length 0 l.length (by omega) (by omega) (by omega) (by omega) (by omega)]
  have A := pos_id l s hs
  congr 2
  cases hd : idM l s with
  | some i =>
    rw [hd] at A
    rw [decide_eq_true (show (posM l s : Int) < (l.length : Int) by omega), A.2]; simp [cs_self]
  | none =>
    rw [hd] at A
    cases hc : (decide ((posM l s : Int) < (l.length : Int)) && (cmpS (rd_T37 l (posM l s : Int)).f0 s == 0)) with
    | false => rfl
    | true =>
      rw [Bool.and_eq_true, decide_eq_true_eq, beq_iff_eq] at hc
      exact absurd ⟨by omega, hc.2⟩ A
theorem linked_f (l : List Lk) (x0 : ByteArray) (x1 : Int) (hs : Srt l) (h0 : l.length ≤ 1048676) : impl_linked.f l x0 x1 = some (insR (delM x0 l) ⟨x0, x1⟩) := by
  have hd := delM_length x0 l
  have hp := posM_le (delM x0 l) x0
  unfold impl_linked.f
  rw [if_pos (by omega)]
  unfold insL
  rw [bsn_pos (delM x0 l) x0 (delM_srt x0 hs) (delM x0 l).length 0 (delM x0 l).length (by omega) (by omega) (by omega) (by omega) (by omega), show ((posM (delM x0 l) x0 : Int)).toNat = posM (delM x0 l) x0 by omega]
  exact congrArg some (insR_eq (delM x0 l) ⟨x0, x1⟩)
theorem unlinked_f (l : List Lk) (s : ByteArray) (h0 : l.length ≤ 1048676) : impl_unlinked.f l s = some (delM s l) := by
  unfold impl_unlinked.f; rw [if_pos (by omega)]
theorem applied_f (l : List Lk) (m : Mv) (hs : Srt l) (h0 : l.length ≤ 1048650) (hm2 : m.f2.size ≤ 1048676) (k : Nat) (hk : 1048690 < k) : ∃ d b, impl_applied.f k l m.f0 m.f1 m.f2 m.f3 = some (d, b) ∧ (nameM m.f1 = true → match appM l m with | some l' => d = l' ∧ b = true | none => b = false) := by
  obtain ⟨q, rfl⟩ : ∃ m, k = m + 1 := ⟨k - 1, by omega⟩
  have hd := delM_length m.f1 l
  have A := pos_id l m.f1 hs
  unfold impl_applied.f
  rw [linkAt_f l m.f1 hs (by omega)]
  simp only [Option.bind_some, tl_nil]
  rw [linked_f l m.f1 m.f3 hs (by omega), unlinked_f l m.f1 (by omega)]
  simp only [Option.bind_some]
  have fin : ∀ (n : Bool) (X : Option (List Lk)), ((nameM m.f1 = true → appM l m = X)) → (match X with | some l' => n = true | none => n = false) → ∀ d, (∀ l', X = some l' → d = l') → ∃ d' b', (some (d, n) : Option (List Lk × Bool)) = some (d', b') ∧ (nameM m.f1 = true → match appM l m with | some l' => d' = l' ∧ b' = true | none => b' = false) := by
    intro n X hX hn d hd
    refine ⟨d, n, rfl, fun h => ?_⟩
    rw [hX h]
    cases X with
    | none => exact hn
    | some l' => exact ⟨hd l' rfl, hn⟩
  have app : nameM m.f1 = true → appM l m = (if m.f0 = 1 then (if idM l m.f1 = none ∧ m.f2.size = 0 then some (insR (delM m.f1 l) ⟨m.f1, m.f3⟩) else none)
    else if m.f0 = 2 then (match idM l m.f1 with
      | some i => if m.f3 = 0 ∧ nameM m.f2 = true ∧ m.f2 ≠ m.f1 then some (insR (delM m.f2 (delM m.f1 l)) ⟨m.f2, i⟩) else none
      | none => none)
    else if m.f0 = 3 then (if idM l m.f1 ≠ none ∧ m.f2.size = 0 ∧ m.f3 = 0 then some (delM m.f1 l) else none)
    else none) := by
    intro h
    unfold appM
    rw [if_pos h]
  by_cases h1 : m.f0 = 1
  · rw [if_pos h1]
    cases hi : idM l m.f1 with
    | some i =>
      rw [hi] at app
      simp only [Option.isSome_some]
      rw [if_pos trivial]
      refine fin false none (fun h => by rw [app h, if_pos h1, if_neg (fun h => by cases h.1)]) rfl _ (fun l' h => by cases h)
    | none =>
      rw [hi] at app
      simp only [Option.isSome_none]
      rw [if_neg (by decide)]
      by_cases h2 : m.f2.size = 0
      · refine fin _ (some _) (fun h => by rw [app h, if_pos h1, if_pos ⟨rfl, h2⟩]) (beq_iff_eq.mpr (tl_nil.2 h2)) _ (fun l' h => by cases h; rfl)
      · refine fin _ none (fun h => by rw [app h, if_pos h1, if_neg (fun h => h2 h.2)]) (beq_eq_false_iff_ne.mpr (fun h => h2 (tl_nil.1 h))) _ (fun l' h => by cases h)
  · rw [if_neg h1]
    by_cases h2 : m.f0 = 2
    · rw [if_pos h2]
      have no : ∀ (X : nameM m.f1 = true → appM l m = none) (p : Int), ∃ d' b', impl_applied.j0 (q + 1) l p true m.f0 m.f1 m.f2 m.f3 = some (d', b') ∧ (nameM m.f1 = true → match appM l m with | some l' => d' = l' ∧ b' = true | none => b' = false) := by
        intro X p
        simp only [impl_applied.j0]
        rw [if_pos trivial]
        exact fin false none X rfl _ (fun l' h => by cases h)
      cases hi : idM l m.f1 with
      | none =>
        rw [hi] at app
        simp only [Option.isSome_none]
        rw [if_neg (by decide)]
        exact no (fun h => by rw [app h, if_neg h1, if_pos h2]) _
      | some i =>
        rw [hi] at app A
        simp only [Option.isSome_some]
        rw [if_pos trivial]
        by_cases c1 : m.f3 = 0
        · rw [if_pos c1, nameOk_f m.f2 hm2 _ (by omega)]
          simp only [Option.bind_some]
          by_cases c2 : nameM m.f2 = true
          · rw [if_pos c2]
            by_cases c3 : m.f2 = m.f1
            · rw [beq_iff_eq.mpr (tl_iff.2 c3)]
              exact no (fun h => by rw [app h, if_neg h1, if_pos h2]; simp only []; rw [if_neg (fun h => h.2.2 c3)]) _
            · rw [beq_eq_false_iff_ne.mpr (fun h => c3 (tl_iff.1 h))]
              simp only [impl_applied.j0]
              rw [if_neg (by decide), unlinked_f l m.f1 (by omega)]
              simp only [Option.bind_some]
              rw [if_pos (by omega), if_pos (by omega), linked_f (delM m.f1 l) m.f2 _ (delM_srt _ hs) (by omega), A.2]
              simp only [Option.bind_some]
              exact fin true (some _) (fun h => by rw [app h, if_neg h1, if_pos h2]; simp only []; rw [if_pos ⟨c1, c2, c3⟩]) rfl _ (fun l' h => by cases h; rfl)
          · rw [if_neg c2]
            exact no (fun h => by rw [app h, if_neg h1, if_pos h2]; simp only []; rw [if_neg (fun h => c2 h.2.1)]) _
        · rw [if_neg c1]
          exact no (fun h => by rw [app h, if_neg h1, if_pos h2]; simp only []; rw [if_neg (fun h => c1 h.1)]) _
    · rw [if_neg h2]
      by_cases h3 : m.f0 = 3
      · rw [if_pos h3]
        cases hi : idM l m.f1 with
        | none =>
          rw [hi] at app
          simp only [Option.isSome_none]
          rw [if_neg (by decide)]
          exact fin false none (fun h => by rw [app h, if_neg h1, if_neg h2, if_pos h3, if_neg (fun h => h.1 rfl)]) rfl _ (fun l' h => by cases h)
        | some i =>
          rw [hi] at app
          simp only [Option.isSome_some]
          rw [if_pos trivial]
          by_cases c2 : m.f2.size = 0
          · rw [if_pos c2]
            by_cases c1 : m.f3 = 0
            · exact fin _ (some _) (fun h => by rw [app h, if_neg h1, if_neg h2, if_pos h3, if_pos ⟨(fun h => by cases h), c2, c1⟩]) (beq_iff_eq.mpr c1) _ (fun l' h => by cases h; rfl)
            · exact fin _ none (fun h => by rw [app h, if_neg h1, if_neg h2, if_pos h3, if_neg (fun h => c1 h.2.2)]) (beq_eq_false_iff_ne.mpr c1) _ (fun l' h => by cases h)
          · rw [if_neg c2]
            exact fin false none (fun h => by rw [app h, if_neg h1, if_neg h2, if_pos h3, if_neg (fun h => c2 h.2.1)]) rfl _ (fun l' h => by cases h)
      · rw [if_neg h3]
        exact fin false none (fun h => by rw [app h, if_neg h1, if_neg h2, if_neg h3]) rfl _ (fun l' h => by cases h)
theorem inodesOk_run (ro nx : Int) (nd : List Nd) (di : List Lk) (mv : List Mv) (n0 : 1 ≤ nx) (n1 : nx ≤ 1000000) (h0 : nd.length ≤ 1048600) (hz : ∀ x ∈ nd, x.f1.size ≤ 1048676) : ∀ (b a : List Nd) (k : Nat), a ++ b = nd → b.length < k →
    impl_inodesOk.l0 k (usedR a) nd (nd.length : Int) (a.length : Int) ro nx nd di mv = some (nodR nx (prevN a) b && (decide ((nd.length : Int) ≤ 10) && decide (usedR nd ≤ ro)))
  | [], a, k, e, hk => by
    obtain ⟨q, rfl⟩ : ∃ m, k = m + 1 := ⟨k - 1, by omega⟩
    have ha : a = nd := by simpa using e
    subst ha
    simp only [impl_inodesOk.l0]
    rw [if_neg (by omega)]
    by_cases c : (a.length : Int) ≤ 10
    · rw [if_pos c, decide_eq_true c]; simp [nodR]
    · rw [if_neg c, decide_eq_false c]; simp
  | x :: b, a, k, e, hk => by
    simp only [List.length_cons] at hk
    have hlen := congrArg List.length e
    rw [List.length_append, List.length_cons] at hlen
    obtain ⟨q, rfl⟩ : ∃ m, k = m + 1 := ⟨k - 1, by omega⟩
    have hrd : rd_T35 nd (a.length : Int) = x := by rw [← e]; exact rdA35 a x b
    have hx := hz x (by rw [← e]; simp)
    have hu := usedR_le a (fun y hy => by have := hz y (by rw [← e]; exact List.mem_append.2 (.inl hy)); omega)
    have hsum : ∀ (a : List Nd), usedR (a ++ [x]) = usedR a + (x.f1.size : Int) := by
      intro a
      induction a with
      | nil => simp [usedR]
      | cons y r ih => rw [List.cons_append, usedR, usedR, ih, Int.add_assoc]
    have ih := inodesOk_run ro nx nd di mv n0 n1 h0 hz b (a ++ [x]) q (by rw [List.append_assoc]; exact e) (by omega)
    rw [show (((a ++ [x]).length : Nat) : Int) = (a.length : Int) + 1 by simp, prevN_snoc, hsum] at ih
    have hnod : nodR nx (prevN a) (x :: b) = (decide (1 ≤ x.f0 ∧ x.f0 ≤ nx - 1) && (match prevN a with | none => true | some q => decide (q < x.f0)) && decide (0 ≤ x.f2 ∧ x.f2 ≤ (x.f1.size : Int)) && nodR nx (some x.f0) b) := by
      cases prevN a <;> rfl
    simp only [impl_inodesOk.l0]
    rw [if_pos (by omega), if_pos (by omega), if_pos (by omega), hrd, impl_from_run, impl_from_run]
    simp only [Option.bind_some, decide_eq_true_eq]
    rw [w64 (n := nx - 1) (by omega) (by omega), w64 (n := (a.length : Int) + 1) (by omega) (by omega), w64 (n := (a.length : Int) - 1) (by omega) (by omega), w64 (n := usedR a + (x.f1.size : Int)) (by omega) (by omega), ih, hnod]
    generalize nodR nx (some x.f0) b = A
    generalize (decide ((nd.length : Int) ≤ 10) && decide (usedR nd ≤ ro)) = C
    by_cases c1 : 1 ≤ x.f0 ∧ x.f0 ≤ nx - 1
    · rw [if_pos c1, decide_eq_true c1, Bool.true_and]
      have sure : ∀ P : Bool, P = true → (if 0 ≤ x.f2 ∧ x.f2 ≤ (x.f1.size : Int) then some (A && C) else some false) = some (P && decide (0 ≤ x.f2 ∧ x.f2 ≤ (x.f1.size : Int)) && A && C) := by
        intro P hP
        rw [hP, Bool.true_and]
        by_cases c2 : 0 ≤ x.f2 ∧ x.f2 ≤ (x.f1.size : Int)
        · rw [if_pos c2, decide_eq_true c2, Bool.true_and]
        · rw [if_neg c2, decide_eq_false c2]; rfl
      by_cases ha : a = []
      · subst ha
        rw [if_neg (by simp), sure true rfl]; rfl
      · obtain ⟨a', y, rfl⟩ := snoc_of a ha
        have hrd2 : rd_T35 nd (((a' ++ [y]).length : Int) - 1) = y := by
          rw [← e, List.append_assoc, List.singleton_append, show (((a' ++ [y]).length : Nat) : Int) - 1 = (a'.length : Int) by simp]; exact rdA35 a' y (x :: b)
        rw [if_pos (by rw [List.length_append, List.length_singleton]; omega), if_pos (by simp), if_pos (by omega), hrd2, prevN_snoc]
        simp only []
        by_cases c3 : y.f0 < x.f0
        · rw [if_neg (by omega), sure _ (decide_eq_true c3)]
        · rw [if_pos (by omega), decide_eq_false c3]; simp
    · rw [if_neg c1, decide_eq_false c1]; simp
theorem inodesOk_f (ro nx : Int) (nd : List Nd) (di : List Lk) (mv : List Mv) (n0 : 1 ≤ nx) (n1 : nx ≤ 1000000) (h0 : nd.length ≤ 1048600) (hz : ∀ x ∈ nd, x.f1.size ≤ 1048676) (k : Nat) (hk : nd.length < k) : impl_inodesOk.f k ro nx nd di mv = some (nodR nx none nd && (decide ((nd.length : Int) ≤ 10) && decide (usedR nd ≤ ro))) := inodesOk_run ro nx nd di mv n0 n1 h0 hz nd [] k rfl hk
theorem inodeAt_f (ro nx i : Int) (nd : List Nd) (di : List Lk) (mv : List Mv) : impl_inodeAt.f ro nx nd di mv i = some (ixf i nd 0) := rfl
theorem iDisk_l1 (ro nx : Int) (nd : List Nd) (di : List Lk) (h1 : di.length ≤ 1048590) (mvs : List Mv) (h2 : mvs.length ≤ 20) (hs : ∀ m ∈ mvs, m.f1.size ≤ 1048676 ∧ m.f2.size ≤ 1048676) : ∀ (b a : List Mv) (l : List Lk) (own : List Int) (k : Nat), a ++ b = mvs → Srt l → l.length ≤ di.length + a.length → own.length ≤ di.length + a.length → 2 * b.length + 1048800 < k →
    impl_DiskOk.l1 k own l mvs (mvs.length : Int) (a.length : Int) ro nx nd di mvs = some (match mvsR nd own l b with | none => false | some o => decide ((o.length : Int) = nd.length))
  | [], a, l, own, k, e, hl, hll, ho, hk => by
    obtain ⟨q, rfl⟩ : ∃ m, k = m + 1 := ⟨k - 1, by omega⟩
    have ha : a = mvs := by simpa using e
    subst ha
    simp only [impl_DiskOk.l1]
    rw [if_neg (by omega), mvsR]
    exact congrArg some (by rw [Bool.eq_iff_iff, beq_iff_eq, decide_eq_true_eq])
  | m :: b, a, l, own, k, e, hl, hll, ho, hk => by
    simp only [List.length_cons] at hk
    have hlen := congrArg List.length e
    rw [List.length_append, List.length_cons] at hlen
    obtain ⟨q, rfl⟩ : ∃ m, k = m + 1 := ⟨k - 1, by omega⟩
    obtain ⟨p, rfl⟩ : ∃ m, q = m + 1 := ⟨q - 1, by omega⟩
    have hrd : rd_T39 mvs (a.length : Int) = m := by rw [← e]; exact rdA39 a m b
    have hm := hs m (by rw [← e]; simp)
    obtain ⟨d, ok, e1, e2⟩ := applied_f l m hl (by omega) hm.2 (p + 1) (by omega)
    have ih : ∀ l' own', appM l m = some l' → own'.length ≤ own.length + 1 → impl_DiskOk.l1 p own' l' mvs (mvs.length : Int) ((a.length : Int) + 1) ro nx nd di mvs = some (match mvsR nd own' l' b with | none => false | some o => decide ((o.length : Int) = nd.length)) := by
      intro l' own' hl' hh
      have f := iDisk_l1 ro nx nd di h1 mvs h2 hs b (a ++ [m]) l' own' p (by rw [List.append_assoc]; exact e) (appM_srt hl hl') (by have := appM_length hl'; simp; omega) (by simp; omega) (by omega)
      rw [show (((a ++ [m]).length : Nat) : Int) = (a.length : Int) + 1 by simp] at f
      exact f
    have no : ∀ d', impl_DiskOk.j3 (p + 1) own d' mvs (mvs.length : Int) (a.length : Int) true ro nx nd di mvs m.f0 m.f1 m.f2 m.f3 = some false := by
      intro d'
      simp only [impl_DiskOk.j3]
      rw [if_pos trivial]
    simp only [impl_DiskOk.l1]
    rw [if_pos (by omega), if_pos (by omega), if_pos (by omega), hrd, e1]
    simp only [Option.bind_some]
    rw [nameOk_f m.f1 hm.1 (p + 1) (by omega)]
    simp only [Option.bind_some]
    have hnone : nameM m.f1 ≠ true → appM l m = none := fun h => by unfold appM; rw [if_neg h]
    by_cases hn : nameM m.f1 = true
    · have e3 := e2 hn
      rw [hn]
      cases hap : appM l m with
      | none =>
        rw [hap] at e3
        simp only [] at e3
        rw [e3, if_neg (by decide), no, mvsR, hap]
      | some l' =>
        rw [hap] at e3
        simp only [] at e3
        obtain ⟨rfl, rfl⟩ := e3
        rw [if_pos rfl, mvsR, hap]
        simp only [impl_DiskOk.j3, Bool.not_true]
        rw [if_neg (by decide), inodeAt_f]
        simp only [Option.bind_some]
        rw [contains_f own m.f3 (by omega) p (by omega), w64 (n := (a.length : Int) + 1) (by omega) (by omega)]
        simp only [Option.bind_some]
        by_cases c : m.f0 = 1
        · rw [if_pos c, if_pos c]
          rcases ixf_range m.f3 nd 0 (by omega) with ⟨r1, r2⟩ | ⟨r1, r2, r3⟩
          · rw [if_pos (by omega), if_neg (fun h => by rw [r2] at h; cases h.1)]
          · rw [if_neg (by omega)]
            by_cases c2 : m.f3 ∈ own
            · rw [if_pos (decide_eq_true c2), if_neg (fun h => h.2 c2)]
            · rw [if_neg (by rw [decide_eq_true_eq]; exact c2), if_pos (by omega), if_pos ⟨r3, c2⟩]
              exact ih d _ hap (by simp)
        · rw [if_neg c, if_neg c]
          exact ih d _ hap (by omega)
    · have hap := hnone hn
      rw [mvsR, hap, Bool.eq_false_iff.mpr hn]
      simp only [Bool.not_false]
      rw [no]
      split <;> rfl
theorem iDisk_l0 (ro nx : Int) (nd : List Nd) (di : List Lk) (h1 : di.length ≤ 1048590) (hd : ∀ x ∈ di, x.f0.size ≤ 1048676) (mvs : List Mv) (h2 : mvs.length ≤ 20) (hs : ∀ m ∈ mvs, m.f1.size ≤ 1048676 ∧ m.f2.size ≤ 1048676) : ∀ (b a : List Lk) (k : Nat), a ++ b = di → (∀ R, dirR nd (prevL a) (a.map fun y => y.f1) b = true → R = (a ++ b) → Srt R) → b.length + 1048900 < k →
    impl_DiskOk.l0 k (a.map fun y => y.f1) di (di.length : Int) (a.length : Int) ro nx nd di mvs = some (dirR nd (prevL a) (a.map fun y => y.f1) b && (match mvsR nd (di.map fun y => y.f1) di mvs with | none => false | some o => decide ((o.length : Int) = nd.length)))
  | [], a, k, e, hR, hk => by
    obtain ⟨q, rfl⟩ : ∃ m, k = m + 1 := ⟨k - 1, by omega⟩
    have ha : a = di := by simpa using e
    subst ha
    have hsrt := hR a (by simp [dirR]) (by simp)
    simp only [impl_DiskOk.l0]
    rw [if_neg (by omega)]
    have f := iDisk_l1 ro nx nd a h1 mvs h2 hs mvs [] a (a.map fun y => y.f1) q (by simp) hsrt (by simp) (by simp) (by omega)
    simp only [List.length_nil] at f
    rw [show ((0 : Nat) : Int) = 0 from rfl] at f
    rw [f]; simp [dirR]
  | x :: b, a, k, e, hR, hk => by
    simp only [List.length_cons] at hk
    have hlen := congrArg List.length e
    rw [List.length_append, List.length_cons] at hlen
    obtain ⟨q, rfl⟩ : ∃ m, k = m + 1 := ⟨k - 1, by omega⟩
    have hrd : rd_T37 di (a.length : Int) = x := by rw [← e]; exact rdA37 a x b
    have hx := hd x (by rw [← e]; simp)
    have ih := fun hh => iDisk_l0 ro nx nd di h1 hd mvs h2 hs b (a ++ [x]) q (by rw [List.append_assoc]; exact e) hh (by omega)
    rw [show (((a ++ [x]).length : Nat) : Int) = (a.length : Int) + 1 by simp, prevL_snoc, List.map_append, List.map_singleton] at ih
    have hdir : dirR nd (prevL a) (a.map fun y => y.f1) (x :: b) = (nameM x.f0 && (match prevL a with | none => true | some q => decide (cmpS q x.f0 < 0)) && hasM nd x.f1 && !(decide (x.f1 ∈ a.map fun y => y.f1)) && dirR nd (some x.f0) ((a.map fun y => y.f1) ++ [x.f1]) b) := by
      cases prevL a <;> rfl
    simp only [impl_DiskOk.l0]
    rw [if_pos (by omega), if_pos (by omega), if_pos (by omega), hrd, nameOk_f x.f0 (by omega) q (by omega)]
    simp only [Option.bind_some]
    rw [inodeAt_f]
    simp only [Option.bind_some]
    rw [contains_f (a.map fun y => y.f1) x.f1 (by rw [List.length_map]; omega) q (by rw [List.length_map]; omega)]
    simp only [Option.bind_some]
    rw [w64 (n := (a.length : Int) + 1) (by omega) (by omega), w64 (n := (a.length : Int) - 1) (by omega) (by omega), if_pos (show (a.map fun y => y.f1).length < 17592186044416 by rw [List.length_map]; omega)]
    rw [hdir] at hR ⊢
    generalize hM : (match mvsR nd (di.map fun y => y.f1) di mvs with | none => false | some o => decide ((o.length : Int) = nd.length)) = M at ih ⊢
    by_cases hn : nameM x.f0 = true
    · rw [if_pos hn, hn, Bool.true_and]
      rw [hn, Bool.true_and] at hR
      have tail : ∀ (P : Bool), P = true → (match prevL a with | none => true | some q => decide (cmpS q x.f0 < 0)) = P → (if ixf x.f1 nd 0 < 0 then some false else if decide (x.f1 ∈ a.map fun y => y.f1) = true then some false else impl_DiskOk.l0 q ((a.map fun y => y.f1) ++ [x.f1]) di (di.length : Int) ((a.length : Int) + 1) ro nx nd di mvs) = some ((match prevL a with | none => true | some q => decide (cmpS q x.f0 < 0)) && hasM nd x.f1 && !(decide (x.f1 ∈ a.map fun y => y.f1)) && dirR nd (some x.f0) ((a.map fun y => y.f1) ++ [x.f1]) b && M) := by
        intro P hP hQ
        rw [hQ, hP] at hR ⊢
        rw [Bool.true_and] at hR ⊢
        rcases ixf_range x.f1 nd 0 (by omega) with ⟨r1, r2⟩ | ⟨r1, r2, r3⟩
        · rw [if_pos (by omega), r2]; rfl
        · rw [if_neg (by omega), r3, Bool.true_and]
          rw [r3, Bool.true_and] at hR
          by_cases c2 : x.f1 ∈ a.map fun y => y.f1
          · rw [if_pos (decide_eq_true c2), decide_eq_true c2]; rfl
          · rw [if_neg (by rw [decide_eq_true_eq]; exact c2), decide_eq_false c2, ih (fun R h1 h2 => hR R (by rw [decide_eq_false c2]; simpa using h1) (by rw [h2]; simp))]
            rfl
      by_cases ha : a = []
      · subst ha
        rw [if_neg (by simp)]
        exact tail true rfl rfl
      · obtain ⟨a', y, rfl⟩ := snoc_of a ha
        have hrd2 : rd_T37 di (((a' ++ [y]).length : Int) - 1) = y := by
          rw [← e, List.append_assoc, List.singleton_append, show (((a' ++ [y]).length : Nat) : Int) - 1 = (a'.length : Int) by simp]; exact rdA37 a' y (x :: b)
        rw [if_pos (by rw [List.length_append, List.length_singleton]; omega), if_pos (by simp), if_pos (by omega), hrd2]
        simp only [bl_s]
        by_cases c : cmpS y.f0 x.f0 < 0
        · rw [if_pos c]
          exact tail true rfl (by rw [prevL_snoc]; exact decide_eq_true c)
        · rw [if_neg c, prevL_snoc]
          simp only []
          rw [decide_eq_false c]; rfl
    · rw [if_neg hn, Bool.eq_false_iff.mpr hn]; rfl
theorem iDiskOk_f (ro nx : Int) (nd : List Nd) (di : List Lk) (mvs : List Mv) (h0 : nd.length ≤ 1048600) (hz : ∀ x ∈ nd, x.f1.size ≤ 1048676) (h1 : di.length ≤ 1048590) (hd : ∀ x ∈ di, x.f0.size ≤ 1048676) (h2 : mvs.length ≤ 1048600) (hs : ∀ m ∈ mvs, m.f1.size ≤ 1048676 ∧ m.f2.size ≤ 1048676) (k : Nat) (hk : 2097500 < k) : impl_DiskOk.f k ro nx nd di mvs = some (okM ro nx nd di mvs) := by
  obtain ⟨q, rfl⟩ : ∃ m, k = m + 1 := ⟨k - 1, by omega⟩
  have no : impl_DiskOk.j0 (q + 1) true ro nx nd di mvs = some false := by simp only [impl_DiskOk.j0]; rw [if_pos trivial]
  unfold impl_DiskOk.f okM
  rw [impl_from_run, impl_from_run]
  simp only [Option.bind_some, decide_eq_true_eq]
  by_cases c1 : 0 ≤ ro ∧ ro ≤ 1048576
  · rw [if_pos c1, decide_eq_true c1, Bool.true_and]
    by_cases c2 : 1 ≤ nx ∧ nx ≤ 1000000
    · rw [if_pos c2, decide_eq_true c2, Bool.true_and, inodesOk_f ro nx nd di mvs c2.1 c2.2 h0 hz _ (by omega), usedM_eq]
      simp only [Option.bind_some]
      by_cases c3 : (nodR nx none nd && (decide ((nd.length : Int) ≤ 10) && decide (usedR nd ≤ ro))) = true
      · rw [if_pos c3]
        rw [Bool.and_eq_true, Bool.and_eq_true] at c3
        rw [c3.1, c3.2.1, c3.2.2, Bool.true_and, Bool.true_and, Bool.true_and]
        by_cases c4 : (mvs.length : Int) ≤ 20
        · simp only [impl_DiskOk.j0]
          have f := iDisk_l0 ro nx nd di h1 hd mvs (by omega) hs di [] q (by simp) (fun R h e => by rw [e]; exact (dirR_srt nd di none [] h).1) (by omega)
          simp only [List.length_nil, List.map_nil] at f
          rw [show ((0 : Nat) : Int) = 0 from rfl] at f
          rw [if_neg (by rw [decide_eq_true_eq]; omega), f, decide_eq_true c4, Bool.true_and]; rfl
        · rw [decide_eq_true (show (mvs.length : Int) > 20 by omega), no, decide_eq_false c4]; rfl
      · rw [if_neg c3, no]
        congr 1
        symm
        rw [← Bool.not_eq_true] at *
        intro h
        apply c3
        simp only [Bool.and_eq_true] at h ⊢
        exact ⟨h.1.1.1.1.1, h.1.1.1.1.2, h.1.1.1.2⟩
    · rw [if_neg c2, no, decide_eq_false c2]; simp
  · rw [if_neg c1, no, decide_eq_false c1]; simp

structure Fine (nd : List Nd) (di : List Lk) (mv : List Mv) : Prop where
  n : nd.length ≤ 1048576
  d : di.length ≤ 1048576
  m : mv.length ≤ 1048576
  nz : ∀ x ∈ nd, x.f1.size ≤ 1048576
  dz : ∀ x ∈ di, x.f0.size ≤ 1048576
  mz : ∀ x ∈ mv, x.f1.size ≤ 1048576 ∧ x.f2.size ≤ 1048576
theorem sOk (ro nx : Int) {nd : List Nd} {di : List Lk} {mv : List Mv} (h : Fine nd di mv) (k : Nat) (hk : 2097500 < k) : spec_DiskOk.f k ro nx nd di mv = some (okM ro nx nd di mv) := by
  have h0 := h.n
  have h1 := h.d
  have h2 := h.m
  exact sDiskOk_f ro nx nd di mv (by omega) (fun x hx => by have := h.nz x hx; omega) (by omega) (fun x hx => by have := h.dz x hx; omega) (by omega) (fun x hx => by have := h.mz x hx; omega) k (by omega)
theorem iOk (ro nx : Int) {nd : List Nd} {di : List Lk} {mv : List Mv} (h : Fine nd di mv) (k : Nat) (hk : 2097500 < k) : impl_DiskOk.f k ro nx nd di mv = some (okM ro nx nd di mv) := by
  have h0 := h.n
  have h1 := h.d
  have h2 := h.m
  exact iDiskOk_f ro nx nd di mv (by omega) (fun x hx => by have := h.nz x hx; omega) (by omega) (fun x hx => by have := h.dz x hx; omega) (by omega) (fun x hx => by have := h.mz x hx; omega) k (by omega)

theorem appM_name {l l' : List Lk} {m : Mv} (h : appM l m = some l') : nameM m.f1 = true := by
  unfold appM at h
  split at h
  · assumption
  · cases h
theorem ok_mov {ro nx : Int} {nd : List Nd} {di : List Lk} {mv : List Mv} (h : okM ro nx nd di mv = true) : ∃ D, movM di mv = some D ∧ Srt di ∧ Srt D ∧ D.length ≤ di.length + mv.length ∧ mv.length ≤ 20 ∧ nd.length ≤ 10 ∧ di.length ≤ 10 := by
  obtain ⟨_, _, h3, h4, h5, _, _, _, h8, h9⟩ := (okM_spec ro nx nd di mv).1 h
  have hs := (dirR_srt nd di none [] h8).1
  cases e : mvsR nd (di.map fun y => y.f1) di mv with
  | none => rw [e] at h9; cases h9
  | some o =>
    obtain ⟨_, _, _, g⟩ := mvsR_own nd mv _ di o e
    cases e2 : movM di mv with
    | none => rw [e2] at g; cases g
    | some D =>
      have q := movM_srt mv hs e2
      exact ⟨D, rfl, hs, q.1, q.2, by omega, by omega, by omega⟩
theorem sNames_run (ro nx : Int) (nd : List Nd) (di : List Lk) (mvs : List Mv) (h2 : mvs.length ≤ 20) (hs : ∀ m ∈ mvs, m.f1.size ≤ 1048576 ∧ m.f2.size ≤ 1048576) (D : List Lk) : ∀ (b a : List Mv) (l : List Lk) (k : Nat), a ++ b = mvs → movM l b = some D → l.length ≤ 10 + a.length → b.length + 1048700 < k →
    spec_l4Names.l0 k (mvs.length : Int) l (a.length : Int) ro nx nd di mvs = some D
  | [], a, l, k, e, hm, hll, hk => by
    obtain ⟨q, rfl⟩ : ∃ m, k = m + 1 := ⟨k - 1, by omega⟩
    subst e
    cases hm
    simp only [spec_l4Names.l0]
    rw [if_neg (by simp)]
  | m :: b, a, l, k, e, hm, hll, hk => by
    simp only [List.length_cons] at hk
    have hlen := congrArg List.length e
    rw [List.length_append, List.length_cons] at hlen
    obtain ⟨q, rfl⟩ : ∃ m, k = m + 1 := ⟨k - 1, by omega⟩
    have hrd : rd_T39 mvs (a.length : Int) = m := by rw [← e]; exact rdA39 a m b
    have hz := hs m (by rw [← e]; simp)
    rw [movM] at hm
    cases hap : appM l m with
    | none => rw [hap] at hm; cases hm
    | some l' =>
      rw [hap] at hm
      have hl' := appM_length hap
      simp only [spec_l4Names.l0]
      rw [if_pos (by omega), if_pos (by omega), if_pos (by omega), hrd, l4Apply_f l m (by omega) (by omega) (by omega) q (by omega), hap]
      simp only [Option.bind_some]
      have f := sNames_run ro nx nd di mvs h2 hs D b (a ++ [m]) l' q (by rw [List.append_assoc]; exact e) hm (by rw [List.length_append, List.length_singleton]; omega) (by omega)
      rw [show (((a ++ [m]).length : Nat) : Int) = (a.length : Int) + 1 by simp] at f
      rw [w64 (n := (a.length : Int) + 1) (by omega) (by omega), f]
theorem iNames_run (mvs : List Mv) (h2 : mvs.length ≤ 20) (hs : ∀ m ∈ mvs, m.f1.size ≤ 1048576 ∧ m.f2.size ≤ 1048576) (D : List Lk) : ∀ (b a : List Mv) (l : List Lk) (k : Nat), a ++ b = mvs → movM l b = some D → Srt l → l.length ≤ 10 + a.length → b.length + 1048700 < k →
    impl_names.l0 k l mvs (mvs.length : Int) (a.length : Int) = some D
  | [], a, l, k, e, hm, hsr, hll, hk => by
    obtain ⟨q, rfl⟩ : ∃ m, k = m + 1 := ⟨k - 1, by omega⟩
    subst e
    cases hm
    simp only [impl_names.l0]
    rw [if_neg (by simp)]
  | m :: b, a, l, k, e, hm, hsr, hll, hk => by
    simp only [List.length_cons] at hk
    have hlen := congrArg List.length e
    rw [List.length_append, List.length_cons] at hlen
    obtain ⟨q, rfl⟩ : ∃ m, k = m + 1 := ⟨k - 1, by omega⟩
    have hrd : rd_T39 mvs (a.length : Int) = m := by rw [← e]; exact rdA39 a m b
    have hz := hs m (by rw [← e]; simp)
    rw [movM] at hm
    cases hap : appM l m with
    | none => rw [hap] at hm; cases hm
    | some l' =>
      rw [hap] at hm
      have hl' := appM_length hap
      obtain ⟨d, ok, e1, e2⟩ := applied_f l m hsr (by omega) (by omega) q (by omega)
      have e3 := e2 (appM_name hap)
      rw [hap] at e3
      simp only [] at e3
      obtain ⟨rfl, rfl⟩ := e3
      simp only [impl_names.l0]
      rw [if_pos (by omega), if_pos (by omega), if_pos (by omega), hrd, e1]
      simp only [Option.bind_some]
      have f := iNames_run mvs h2 hs D b (a ++ [m]) d q (by rw [List.append_assoc]; exact e) hm (appM_srt hsr hap) (by rw [List.length_append, List.length_singleton]; omega) (by omega)
      rw [show (((a ++ [m]).length : Nat) : Int) = (a.length : Int) + 1 by simp] at f
      rw [w64 (n := (a.length : Int) + 1) (by omega) (by omega), f]
theorem sNames_f (ro nx : Int) (nd : List Nd) {di : List Lk} {mv : List Mv} {D : List Lk} (hm : movM di mv = some D) (h1 : di.length ≤ 10) (h2 : mv.length ≤ 20) (hs : ∀ m ∈ mv, m.f1.size ≤ 1048576 ∧ m.f2.size ≤ 1048576) (k : Nat) (hk : 1048800 < k) : spec_l4Names.f k ro nx nd di mv (mv.length : Int) = some D := by
  unfold spec_l4Names.f
  simp only [Option.bind_some, List.nil_append, List.length_nil]
  rw [if_pos (by omega)]
  exact sNames_run ro nx nd di mv h2 hs D mv [] di k rfl hm (by simp; omega) (by omega)
theorem iNames_f {di : List Lk} {mv : List Mv} {D : List Lk} (hm : movM di mv = some D) (hsr : Srt di) (h1 : di.length ≤ 10) (h2 : mv.length ≤ 20) (hs : ∀ m ∈ mv, m.f1.size ≤ 1048576 ∧ m.f2.size ≤ 1048576) (k : Nat) (hk : 1048800 < k) : impl_names.f k di mv = some D := by
  unfold impl_names.f impl_Link_71.f
  rw [if_pos (by omega)]
  simp only [Option.bind_some]
  exact iNames_run mv h2 hs D mv [] di k rfl hm hsr (by simp; omega) (by omega)
def findM (D : List Lk) (nd : List Nd) (s : ByteArray) : Int := match idM D s with | some i => ixf i nd 0 | none => -1
theorem findM_range (D : List Lk) (nd : List Nd) (s : ByteArray) : findM D nd s = -1 ∨ (0 ≤ findM D nd s ∧ findM D nd s < (nd.length : Int)) := by
  unfold findM
  cases idM D s with
  | none => exact .inl rfl
  | some i =>
    rcases ixf_range i nd 0 (by omega) with ⟨h, _⟩ | ⟨h1, h2, _⟩
    · exact .inl h
    · exact .inr ⟨h1, by simp only []; omega⟩
theorem sFind_f (ro nx : Int) {nd : List Nd} {di : List Lk} {mv : List Mv} {D : List Lk} (s : ByteArray) (hm : movM di mv = some D) (h0 : nd.length ≤ 10) (h1 : di.length ≤ 10) (h2 : mv.length ≤ 20) (hD : D.length ≤ 30) (hs : ∀ m ∈ mv, m.f1.size ≤ 1048576 ∧ m.f2.size ≤ 1048576) (k : Nat) (hk : 1048800 < k) : spec_l4Find.f k ro nx nd di mv s = some (findM D nd s) := by
  unfold spec_l4Find.f
  rw [sNames_f ro nx nd hm h1 h2 hs k hk]
  simp only [Option.bind_some]
  rw [l4At_f D s (by omega) k (by omega)]
  simp only [Option.bind_some]
  have A := atM_id s D 0 (by omega)
  unfold findM
  cases hd : idM D s with
  | none => rw [hd] at A; rw [A, if_pos (by decide)]
  | some i =>
    rw [hd] at A
    obtain ⟨n, a1, a2, a3⟩ := A
    rw [if_neg (by omega), if_pos (by omega), if_pos (by omega), l4Inode_f ro nx _ nd di mv (by omega) k (by omega), show (rd_T37 D (atM s D 0)).f1 = i by rw [a1, show (0 : Int) + (n : Int) = n by omega]; exact a3]
    rfl
theorem iFind_f (ro nx : Int) {nd : List Nd} {di : List Lk} {mv : List Mv} {D : List Lk} (s : ByteArray) (hm : movM di mv = some D) (hsr : Srt di) (hsD : Srt D) (h1 : di.length ≤ 10) (h2 : mv.length ≤ 20) (hD : D.length ≤ 30) (hs : ∀ m ∈ mv, m.f1.size ≤ 1048576 ∧ m.f2.size ≤ 1048576) (k : Nat) (hk : 1048800 < k) : impl_find.f k ro nx nd di mv s = some (findM D nd s) := by
  unfold impl_find.f
  rw [iNames_f hm hsr h1 h2 hs k hk]
  simp only [Option.bind_some]
  rw [linkAt_f D s hsD (by omega)]
  simp only [Option.bind_some]
  have A := pos_id D s hsD
  unfold findM
  cases hd : idM D s with
  | none => simp
  | some i =>
    rw [hd] at A
    simp only [Option.isSome_some]
    rw [if_pos trivial, if_pos (by omega), if_pos (by omega), A.2]; rfl

abbrev Rd := Int × Int × List Nd × List Lk × List Mv × Int
theorem sCopy_f (ro nx : Int) {nd : List Nd} {di : List Lk} {mv : List Mv} (F : Fine nd di mv) : spec_l4Copy.f ro nx nd di mv = some (ro, nx, nd, di, mv) := by
  have h0 := F.n
  have h1 := F.d
  have h2 := F.m
  unfold spec_l4Copy.f
  simp only [Option.bind_some, List.nil_append, List.length_nil]
  rw [if_pos (by omega), if_pos (by omega), if_pos (by omega)]
theorem okFacts {ro nx : Int} {nd : List Nd} {di : List Lk} {mv : List Mv} (h : okM ro nx nd di mv = true) : 0 ≤ ro ∧ ro ≤ 1048576 ∧ 1 ≤ nx ∧ nx ≤ 1000000 ∧ nd.length ≤ 10 ∧ mv.length ≤ 20 ∧ di.length ≤ 10 ∧ usedR nd ≤ ro := by
  obtain ⟨⟨h1, h2⟩, ⟨h3, h4⟩, h5, h6, h7, h8, _⟩ := (okM_spec ro nx nd di mv).1 h
  rw [usedM_eq] at h8
  exact ⟨h1, h2, h3, h4, by omega, by omega, by omega, h8⟩
def namedM (D : List Lk) (nd : List Nd) (s : ByteArray) : Int := if nameM s = true then (if findM D nd s < 0 then 2 else 0) else 1
theorem Fine.addMv {nd : List Nd} {di : List Lk} {mv : List Mv} (F : Fine nd di mv) (m : Mv) (h : mv.length ≤ 20) (hm : m.f1.size ≤ 1048576 ∧ m.f2.size ≤ 1048576) : Fine nd di (mv ++ [m]) := ⟨F.n, F.d, by rw [List.length_append, List.length_singleton]; omega, F.nz, F.dz, fun x hx => by
  rcases List.mem_append.1 hx with hx | hx
  · exact F.mz x hx
  · rw [List.mem_singleton.1 hx]; exact hm⟩
theorem Fine.addNd {nd : List Nd} {di : List Lk} {mv : List Mv} (F : Fine nd di mv) (x : Nd) (h : nd.length ≤ 10) (hx : x.f1.size ≤ 1048576) : Fine (nd ++ [x]) di mv := ⟨by rw [List.length_append, List.length_singleton]; omega, F.d, F.m, fun y hy => by
  rcases List.mem_append.1 hy with hy | hy
  · exact F.nz y hy
  · rw [List.mem_singleton.1 hy]; exact hx, F.dz, F.mz⟩
theorem Fine.setNd {nd : List Nd} {di : List Lk} {mv : List Mv} (F : Fine nd di mv) (i : Nat) (x : Nd) (hx : x.f1.size ≤ 1048576) : Fine (nd.set i x) di mv := ⟨by rw [List.length_set]; exact F.n, F.d, F.m, fun y hy => by
  rcases List.mem_or_eq_of_mem_set hy with hy | rfl
  · exact F.nz y hy
  · exact hx, F.dz, F.mz⟩
theorem usedR_pos : ∀ nd : List Nd, 0 ≤ usedR nd
  | [] => by simp [usedR]
  | x :: r => by have := usedR_pos r; simp only [usedR]; omega
theorem used_mem : ∀ {nd : List Nd} {x : Nd}, x ∈ nd → (x.f1.size : Int) ≤ usedR nd
  | y :: r, x, h => by
    have p := usedR_pos r
    simp only [usedR]
    rcases List.mem_cons.1 h with rfl | h
    · omega
    · have := used_mem h; omega
theorem appM_dz {l l' : List Lk} {m : Mv} (h : appM l m = some l') (hl : ∀ x ∈ l, x.f0.size ≤ 1048576) (hm : m.f1.size ≤ 1048576 ∧ m.f2.size ≤ 1048576) : ∀ x ∈ l', x.f0.size ≤ 1048576 := by
  unfold appM at h
  split at h
  · split at h
    · split at h
      · cases h; intro x hx
        rcases (insR_mem _ _ _).1 hx with rfl | hx
        · exact hm.1
        · exact hl x (delM_mem _ _ _ hx)
      · cases h
    · split at h
      · split at h
        · split at h
          · cases h; intro x hx
            rcases (insR_mem _ _ _).1 hx with rfl | hx
            · exact hm.2
            · exact hl x (delM_mem _ _ _ (delM_mem _ _ _ hx))
          · cases h
        · cases h
      · split at h
        · split at h
          · cases h; intro x hx; exact hl x (delM_mem _ _ _ hx)
          · cases h
        · cases h
  · cases h
theorem movM_dz : ∀ (ms : List Mv) {l l' : List Lk}, movM l ms = some l' → (∀ x ∈ l, x.f0.size ≤ 1048576) → (∀ m ∈ ms, m.f1.size ≤ 1048576 ∧ m.f2.size ≤ 1048576) → ∀ x ∈ l', x.f0.size ≤ 1048576
  | [], l, l', h, hl, _ => by simp only [movM, Option.some.injEq] at h; subst h; exact hl
  | m :: ms, l, l', h, hl, hm => by
    simp only [movM] at h
    cases hq : appM l m with
    | none => rw [hq] at h; simp at h
    | some q => rw [hq] at h; exact movM_dz ms (by simpa using h) (appM_dz hq hl (hm m List.mem_cons_self)) (fun y hy => hm y (List.mem_cons_of_mem _ hy))

theorem iCopy_f (ro nx : Int) {nd : List Nd} {di : List Lk} {mv : List Mv} (F : Fine nd di mv) : impl_copyDisk.f ro nx nd di mv = some (ro, nx, nd, di, mv) := by
  have h0 := F.n
  have h1 := F.d
  have h2 := F.m
  unfold impl_copyDisk.f impl_Inode_70.f impl_Link_71.f impl_Move.f
  rw [if_pos (by omega), if_pos (by omega), if_pos (by omega)]; rfl

theorem sNamed_f (ro nx : Int) {nd : List Nd} {di : List Lk} {mv : List Mv} {D : List Lk} (s : ByteArray) (hz : s.size ≤ 1048576) (hm : movM di mv = some D) (h0 : nd.length ≤ 10) (h1 : di.length ≤ 10) (h2 : mv.length ≤ 20) (hD : D.length ≤ 30) (hs : ∀ m ∈ mv, m.f1.size ≤ 1048576 ∧ m.f2.size ≤ 1048576) (k : Nat) (hk : 1048800 < k) : spec_l4Named.f k ro nx nd di mv s = some (namedM D nd s) := by
  unfold spec_l4Named.f namedM
  rw [l4Name_f s (by omega) k (by omega)]
  simp only [Option.bind_some]
  by_cases h : nameM s = true
  · rw [if_pos h, if_pos h, sFind_f ro nx s hm h0 h1 h2 hD hs k hk]
    simp only [Option.bind_some]
    split <;> rfl
  · rw [if_neg h, if_neg h]

theorem sMoved_f (ro nx : Int) {nd : List Nd} {di : List Lk} {mv : List Mv} (F : Fine nd di mv) (m : Mv) (c : Int) (k : Nat) (hk : 0 < k) : spec_l4Moved.f k ro nx nd di mv m.f0 m.f1 m.f2 m.f3 c = some (if c = 0 then (if (mv.length : Int) ≥ 20 then (ro, nx, nd, di, mv, 4) else (ro, nx, nd, di, mv ++ [m], 0)) else (ro, nx, nd, di, mv, c)) := by
  obtain ⟨q, rfl⟩ : ∃ m, k = m + 1 := ⟨k - 1, by omega⟩
  have h2 := F.m
  have j0 : ∀ b, spec_l4Moved.j0 (q + 1) c b ro nx nd di mv m.f0 m.f1 m.f2 m.f3 = if b = true then some (ro, nx, nd, di, mv, 4) else (if c = 0 then some (ro, nx, nd, di, mv ++ [m], c) else some (ro, nx, nd, di, mv, c)) := by
    intro b
    simp only [spec_l4Moved.j0]
    rw [sCopy_f ro nx F]
    simp only [Option.bind_some]
    rw [if_neg (show ¬ (4 = 0) by decide), if_pos (show mv.length < 2932031007402 by omega)]
  unfold spec_l4Moved.f
  rw [j0, j0]
  by_cases c0 : c = 0
  · rw [if_pos c0, if_pos c0, if_pos c0]
    by_cases c1 : (mv.length : Int) ≥ 20
    · rw [if_pos (decide_eq_true c1), if_pos c1]
    · rw [if_neg (by rw [decide_eq_true_eq]; exact c1), if_neg c1, c0]
  · rw [if_neg c0, if_neg c0, if_neg c0, if_neg (by decide)]

theorem nodR_iff (next : Int) : ∀ (l : List Nd) (p : Option Int), nodR next p l = true ↔ (∀ x ∈ l, (1 ≤ x.f0 ∧ x.f0 ≤ next - 1) ∧ (0 ≤ x.f2 ∧ x.f2 ≤ (x.f1.size : Int))) ∧ (l.Pairwise fun x y => x.f0 < y.f0) ∧ (∀ q, p = some q → ∀ y ∈ l, q < y.f0)
  | [], p => by simp [nodR]
  | x :: r, p => by
    have ih := nodR_iff next r (some x.f0)
    unfold nodR
    simp only [Bool.and_eq_true, decide_eq_true_eq, ih, List.pairwise_cons]
    constructor
    · rintro ⟨⟨⟨h1, h2⟩, h3⟩, h4, h5, h6⟩
      refine ⟨fun y hy => ?_, ⟨fun y hy => h6 _ rfl y hy, h5⟩, fun q hq y hy => ?_⟩
      · rcases List.mem_cons.1 hy with rfl | hy
        · exact ⟨h1, h3⟩
        · exact h4 y hy
      · subst hq
        simp only [decide_eq_true_eq] at h2
        rcases List.mem_cons.1 hy with rfl | hy
        · exact h2
        · have := h6 _ rfl y hy; omega
    · rintro ⟨h1, ⟨h2, h3⟩, h4⟩
      refine ⟨⟨⟨(h1 x List.mem_cons_self).1, ?_⟩, (h1 x List.mem_cons_self).2⟩, fun y hy => h1 y (List.mem_cons_of_mem _ hy), h3, fun q hq y hy => by cases hq; exact h2 y hy⟩
      cases p with
      | none => rfl
      | some q => simp only [decide_eq_true_eq]; exact h4 q rfl x List.mem_cons_self
theorem dirR_iff (nd : List Nd) : ∀ (l : List Lk) (p : Option ByteArray) (own : List Int), dirR nd p own l = true ↔ (∀ y ∈ l, nameM y.f0 = true ∧ hasM nd y.f1 = true ∧ y.f1 ∉ own) ∧ Srt l ∧ (∀ q, p = some q → ∀ y ∈ l, cmpS q y.f0 < 0) ∧ (l.map fun y => y.f1).Nodup
  | [], p, own => by simp [dirR, srt_nil]
  | x :: r, p, own => by
    have ih := dirR_iff nd r (some x.f0) (own ++ [x.f1])
    unfold dirR
    simp only [Bool.and_eq_true, Bool.not_eq_true', decide_eq_false_iff_not, ih, srt_cons, List.map_cons, List.nodup_cons]
    constructor
    · rintro ⟨⟨⟨⟨h1, h2⟩, h3⟩, h4⟩, h5, h6, h7, h8⟩
      refine ⟨fun y hy => ?_, ⟨fun y hy => h7 _ rfl y hy, h6⟩, fun q hq y hy => ?_, fun hm => ?_, h8⟩
      · rcases List.mem_cons.1 hy with rfl | hy
        · exact ⟨h1, h3, h4⟩
        · have := h5 y hy; exact ⟨this.1, this.2.1, fun c => this.2.2 (List.mem_append.2 (.inl c))⟩
      · subst hq
        simp only [decide_eq_true_eq] at h2
        rcases List.mem_cons.1 hy with rfl | hy
        · exact h2
        · exact cs_trans h2 (h7 _ rfl y hy)
      · obtain ⟨y, hy, e⟩ := List.mem_map.1 hm
        exact (h5 y hy).2.2 (by rw [e]; simp)
    · rintro ⟨h1, ⟨h2, h3⟩, h4, h5, h6⟩
      have hx := h1 x List.mem_cons_self
      refine ⟨⟨⟨⟨hx.1, ?_⟩, hx.2.1⟩, hx.2.2⟩, fun y hy => ?_, h3, fun q hq y hy => by cases hq; exact h2 y hy, h6⟩
      · cases p with
        | none => rfl
        | some q => simp only [decide_eq_true_eq]; exact h4 q rfl x List.mem_cons_self
      · have := h1 y (List.mem_cons_of_mem _ hy)
        refine ⟨this.1, this.2.1, fun c => ?_⟩
        rcases List.mem_append.1 c with c | c
        · exact this.2.2 c
        · exact h5 (List.mem_map.2 ⟨y, hy, List.mem_singleton.1 c⟩)
theorem mvsR_iff (nd : List Nd) : ∀ (ms : List Mv) (own : List Int) (l : List Lk), (mvsR nd own l ms).isSome = true ↔ (movM l ms).isSome = true ∧ (∀ i ∈ madeM ms, hasM nd i = true ∧ i ∉ own) ∧ (madeM ms).Nodup
  | [], own, l => by simp [mvsR, movM, madeM]
  | m :: r, own, l => by
    rw [mvsR, movM]
    cases e : appM l m with
    | none => simp
    | some l' =>
      simp only [Option.bind_some]
      by_cases c : m.f0 = 1
      · have hm : madeM (m :: r) = m.f3 :: madeM r := by simp [madeM, c]
        rw [if_pos c, hm]
        by_cases c2 : hasM nd m.f3 = true ∧ m.f3 ∉ own
        · rw [if_pos c2, mvsR_iff nd r _ l', List.nodup_cons]
          constructor
          · rintro ⟨h1, h2, h3⟩
            refine ⟨h1, fun i hi => ?_, fun hi => (h2 _ hi).2 (by simp), h3⟩
            rcases List.mem_cons.1 hi with rfl | hi
            · exact c2
            · exact ⟨(h2 i hi).1, fun q => (h2 i hi).2 (List.mem_append.2 (.inl q))⟩
          · rintro ⟨h1, h2, h3, h4⟩
            refine ⟨h1, fun i hi => ⟨(h2 i (List.mem_cons_of_mem _ hi)).1, fun q => ?_⟩, h4⟩
            rcases List.mem_append.1 q with q | q
            · exact (h2 i (List.mem_cons_of_mem _ hi)).2 q
            · rw [List.mem_singleton.1 q] at hi; exact h3 hi
        · rw [if_neg c2]
          constructor
          · intro h; cases h
          · rintro ⟨_, h2, _⟩; exact absurd (h2 _ List.mem_cons_self) c2
      · have hm : madeM (m :: r) = madeM r := by simp [madeM, c]
        rw [if_neg c, hm]; exact mvsR_iff nd r own l'
structure Okd (ro nx : Int) (nd : List Nd) (di : List Lk) (mv : List Mv) : Prop where
  r : 0 ≤ ro ∧ ro ≤ 1048576
  x : 1 ≤ nx ∧ nx ≤ 1000000
  n : nd.length ≤ 10
  m : mv.length ≤ 20
  d : di.length ≤ 10
  u : usedM nd ≤ ro
  nn : ∀ x ∈ nd, (1 ≤ x.f0 ∧ x.f0 ≤ nx - 1) ∧ (0 ≤ x.f2 ∧ x.f2 ≤ (x.f1.size : Int))
  np : nd.Pairwise fun x y => x.f0 < y.f0
  o : ∀ x ∈ nd, x.f0 ∈ di.map (fun y => y.f1) ∨ x.f0 ∈ madeM mv
  dn : ∀ y ∈ di, nameM y.f0 = true ∧ hasM nd y.f1 = true
  s : Srt di
  dd : (di.map fun y => y.f1).Nodup
  mm : (movM di mv).isSome = true
  mo : ∀ i ∈ madeM mv, hasM nd i = true ∧ i ∉ di.map fun y => y.f1
  md : (madeM mv).Nodup
theorem okd_iff (ro nx : Int) (nd : List Nd) (di : List Lk) (mv : List Mv) : okM ro nx nd di mv = true ↔ Okd ro nx nd di mv := by
  rw [okM_spec, nodR_iff, dirR_iff, mvsR_iff]
  constructor
  · rintro ⟨h1, h2, h3, h4, h5, h6, ⟨h7, h8, _⟩, h9, ⟨h10, h11, _, h12⟩, h13, h14, h15⟩
    exact ⟨h1, h2, by omega, by omega, by omega, h6, h7, h8, h9, fun y hy => ⟨(h10 y hy).1, (h10 y hy).2.1⟩, h11, h12, h13, h14, h15⟩
  · intro K
    exact ⟨K.r, K.x, by have := K.n; omega, by have := K.m; omega, by have := K.d; omega, K.u, ⟨K.nn, K.np, fun q hq => by cases hq⟩, K.o, ⟨fun y hy => ⟨(K.dn y hy).1, (K.dn y hy).2, by simp⟩, K.s, (fun q hq => by cases hq), K.dd⟩, K.mm, K.mo, K.md⟩
theorem ids_inj : ∀ {l : List Lk}, (l.map fun y => y.f1).Nodup → ∀ {y z : Lk}, y ∈ l → z ∈ l → y.f1 = z.f1 → y = z
  | x :: r, h, y, z, hy, hz, e => by
    rw [List.map_cons, List.nodup_cons] at h
    rcases List.mem_cons.1 hy with h1 | h1
    · rcases List.mem_cons.1 hz with h2 | h2
      · rw [h1, h2]
      · exact absurd (List.mem_map.2 ⟨z, h2, by rw [← e, h1]⟩) h.1
    · rcases List.mem_cons.1 hz with h2 | h2
      · exact absurd (List.mem_map.2 ⟨y, h1, by rw [e, h2]⟩) h.1
      · exact ids_inj h.2 h1 h2 e
theorem idM_some : ∀ {l : List Lk} {s : ByteArray} {i : Int}, idM l s = some i → ∃ z ∈ l, z.f0 = s ∧ z.f1 = i
  | x :: r, s, i, h => by
    rw [idM] at h
    split at h
    · exact ⟨x, List.mem_cons_self, by assumption, Option.some.inj h⟩
    · obtain ⟨z, h1, h2⟩ := idM_some h; exact ⟨z, List.mem_cons_of_mem _ h1, h2⟩
theorem idM_of : ∀ {l : List Lk} {z : Lk}, Srt l → z ∈ l → idM l z.f0 = some z.f1
  | x :: r, z, hs, hz => by
    rw [idM]
    rcases List.mem_cons.1 hz with rfl | hz
    · rw [if_pos rfl]
    · rw [if_neg (cs_ne ((srt_cons.1 hs).1 z hz)), idM_of (srt_cons.1 hs).2 hz]
theorem insR_ids (l : List Lk) (x : Lk) : ((insR l x).map fun y => y.f1).Nodup ↔ x.f1 ∉ (l.map fun y => y.f1) ∧ (l.map fun y => y.f1).Nodup := by
  rw [← insR_eq]
  have p : (l.take (posM l x.f0) ++ x :: l.drop (posM l x.f0)).Perm (x :: l) := by
    have := List.perm_middle (a := x) (l₁ := l.take (posM l x.f0)) (l₂ := l.drop (posM l x.f0))
    rwa [List.take_append_drop] at this
  rw [(p.map fun y => y.f1).nodup_iff, List.map_cons, List.nodup_cons]
theorem delM_ids {s : ByteArray} {l : List Lk} (h : (l.map fun y => y.f1).Nodup) : ((delM s l).map fun y => y.f1).Nodup := (List.Sublist.map _ List.filter_sublist).nodup h
theorem appM_ids {l l' : List Lk} {m : Mv} (h : appM l m = some l') (hn : (l.map fun y => y.f1).Nodup) (h1 : m.f0 = 1 → m.f3 ∉ l.map fun y => y.f1) : (l'.map fun y => y.f1).Nodup ∧ (∀ y ∈ l', y.f1 ∈ l.map (fun y => y.f1) ∨ (m.f0 = 1 ∧ y.f1 = m.f3)) ∧ ((∀ y ∈ l, nameM y.f0 = true) → ∀ y ∈ l', nameM y.f0 = true) := by
  have hin : ∀ {s : ByteArray} {y : Lk}, y ∈ delM s l → y.f1 ∈ l.map (fun y => y.f1) := fun hy => List.mem_map.2 ⟨_, delM_mem _ _ _ hy, rfl⟩
  unfold appM at h
  split at h
  · have hnm : nameM m.f1 = true := by assumption
    split at h
    · rename_i c
      split at h
      · cases h
        refine ⟨(insR_ids _ _).2 ⟨fun q => ?_, delM_ids hn⟩, fun y hy => ?_, fun g y hy => ?_⟩
        · obtain ⟨y, hy, e⟩ := List.mem_map.1 q
          exact h1 c (by have := hin hy; rwa [e] at this)
        · rcases (insR_mem _ _ _).1 hy with rfl | hy
          · exact .inr ⟨c, rfl⟩
          · exact .inl (hin hy)
        · rcases (insR_mem _ _ _).1 hy with rfl | hy
          · exact hnm
          · exact g y (delM_mem _ _ _ hy)
      · cases h
    · split at h
      · split at h
        · rename_i i hi
          split at h
          · rename_i c3
            cases h
            obtain ⟨z, hz, z0, z1⟩ := idM_some hi
            refine ⟨(insR_ids _ _).2 ⟨fun q => ?_, delM_ids (delM_ids hn)⟩, fun y hy => ?_, fun g y hy => ?_⟩
            · obtain ⟨y, hy, e⟩ := List.mem_map.1 q
              have hy1 := delM_mem _ _ _ hy
              have := ids_inj hn (delM_mem _ _ _ hy1) hz (by rw [e, z1])
              exact delM_ne _ _ y hy1 (by rw [this, z0])
            · rcases (insR_mem _ _ _).1 hy with rfl | hy
              · exact .inl (List.mem_map.2 ⟨z, hz, z1⟩)
              · exact .inl (hin (delM_mem _ _ _ hy))
            · rcases (insR_mem _ _ _).1 hy with rfl | hy
              · exact c3.2.1
              · exact g y (delM_mem _ _ _ (delM_mem _ _ _ hy))
          · cases h
        · cases h
      · split at h
        · split at h
          · cases h
            exact ⟨delM_ids hn, fun y hy => .inl (hin hy), fun g y hy => g y (delM_mem _ _ _ hy)⟩
          · cases h
        · cases h
  · cases h
theorem movM_ids : ∀ (ms : List Mv) {l D : List Lk}, movM l ms = some D → (l.map fun y => y.f1).Nodup → (∀ i ∈ madeM ms, i ∉ l.map fun y => y.f1) → (madeM ms).Nodup → (∀ y ∈ l, nameM y.f0 = true) → (D.map fun y => y.f1).Nodup ∧ (∀ y ∈ D, y.f1 ∈ l.map (fun y => y.f1) ∨ y.f1 ∈ madeM ms) ∧ (∀ y ∈ D, nameM y.f0 = true)
  | [], l, D, h, hn, _, _, hm => by cases h; exact ⟨hn, fun y hy => .inl (List.mem_map.2 ⟨y, hy, rfl⟩), hm⟩
  | m :: r, l, D, h, hn, hi, hd, hm => by
    rw [movM] at h
    cases e : appM l m with
    | none => rw [e] at h; cases h
    | some l1 =>
      rw [e] at h
      have q1 : ∀ i, m.f0 = 1 ∧ i = m.f3 → i ∈ madeM (m :: r) := fun i c => by simp [madeM, c.1, c.2]
      have q2 : ∀ i ∈ madeM r, i ∈ madeM (m :: r) := fun i c => by
        by_cases c0 : m.f0 = 1
        · have : madeM (m :: r) = m.f3 :: madeM r := by simp [madeM, c0]
          rw [this]; exact List.mem_cons_of_mem _ c
        · have : madeM (m :: r) = madeM r := by simp [madeM, c0]
          rw [this]; exact c
      have q3 : (madeM r).Nodup ∧ (m.f0 = 1 → m.f3 ∉ madeM r) := by
        by_cases c0 : m.f0 = 1
        · have : madeM (m :: r) = m.f3 :: madeM r := by simp [madeM, c0]
          rw [this, List.nodup_cons] at hd; exact ⟨hd.2, fun _ => hd.1⟩
        · have : madeM (m :: r) = madeM r := by simp [madeM, c0]
          rw [this] at hd; exact ⟨hd, fun c => absurd c c0⟩
      obtain ⟨a1, a2, a3⟩ := appM_ids e hn (fun c => hi _ (q1 _ ⟨c, rfl⟩))
      obtain ⟨b1, b2, b3⟩ := movM_ids r (l := l1) (D := D) (by simpa using h) a1 (fun i hir q => by
        obtain ⟨y, hy, e⟩ := List.mem_map.1 q
        rcases a2 y hy with c | c
        · exact hi i (q2 i hir) (by rw [← e]; exact c)
        · exact q3.2 c.1 (by rw [← c.2, e]; exact hir)) q3.1 (a3 hm)
      refine ⟨b1, fun y hy => ?_, b3⟩
      rcases b2 y hy with c | c
      · obtain ⟨z, hz, e⟩ := List.mem_map.1 c
        rcases a2 z hz with c | c
        · exact .inl (by rw [← e]; exact c)
        · exact .inr (by rw [← e]; exact q1 _ c)
      · exact .inr (q2 _ c)
theorem Okd.names {ro nx : Int} {nd : List Nd} {di : List Lk} {mv : List Mv} {D : List Lk} (K : Okd ro nx nd di mv) (h : movM di mv = some D) : Srt D ∧ (D.map fun y => y.f1).Nodup ∧ (∀ y ∈ D, nameM y.f0 = true ∧ hasM nd y.f1 = true) ∧ D.length ≤ 10 := by
  obtain ⟨a, b, c⟩ := movM_ids mv h K.dd (fun i hi => (K.mo i hi).2) K.md (fun y hy => (K.dn y hy).1)
  have g : ∀ y ∈ D, hasM nd y.f1 = true := fun y hy => by
    rcases b y hy with q | q
    · obtain ⟨z, hz, e⟩ := List.mem_map.1 q
      rw [← e]; exact (K.dn z hz).2
    · exact (K.mo _ q).1
  have hl := nodup_le _ (nd.map fun x => x.f0) a (fun i hi => by
    obtain ⟨y, hy, rfl⟩ := List.mem_map.1 hi
    exact (hasM_mem nd _).1 (g y hy))
  rw [List.length_map, List.length_map] at hl
  exact ⟨(movM_srt mv K.s h).1, a, fun y hy => ⟨c y hy, g y hy⟩, by have := K.n; omega⟩
theorem madeM_snoc (mv : List Mv) (m : Mv) : madeM (mv ++ [m]) = if m.f0 = 1 then madeM mv ++ [m.f3] else madeM mv := by
  unfold madeM; rw [List.filter_append, List.map_append]
  by_cases c : m.f0 = 1
  · simp [c]
  · simp [c]
theorem findM_no {nd : List Nd} {D : List Lk} (hD : ∀ y ∈ D, nameM y.f0 = true ∧ hasM nd y.f1 = true) {s : ByteArray} (h : findM D nd s < 0) : idM D s = none := by
  cases e : idM D s with
  | none => rfl
  | some i =>
    obtain ⟨z, hz, _, z1⟩ := idM_some e
    unfold findM at h
    rw [e] at h
    simp only [] at h
    rcases ixf_range i nd 0 (by omega) with ⟨_, g⟩ | ⟨g, _⟩
    · have := (hD z hz).2; rw [z1, g] at this; cases this
    · omega
theorem findM_yes {nd : List Nd} {D : List Lk} {s : ByteArray} (h : ¬ findM D nd s < 0) : ∃ i, idM D s = some i := by
  unfold findM at h
  cases e : idM D s with
  | none => rw [e] at h; exact absurd (show (-1 : Int) < 0 by omega) h
  | some i => exact ⟨i, rfl⟩
theorem hasM_snoc (nd : List Nd) (x : Nd) (i : Int) : hasM (nd ++ [x]) i = true ↔ hasM nd i = true ∨ x.f0 = i := by
  simp [hasM, List.any_append]
theorem usedM_snoc (nd : List Nd) (x : Nd) : usedM (nd ++ [x]) = usedM nd + (x.f1.size : Int) := by
  rw [usedM_eq, usedM_eq]
  induction nd with
  | nil => simp [usedR]
  | cons y r ih => rw [List.cons_append, usedR, usedR, ih, Int.add_assoc]
theorem ok_make {ro nx : Int} {nd : List Nd} {di : List Lk} {mv : List Mv} {D : List Lk} (K : Okd ro nx nd di mv) (h : movM di mv = some D) {s : ByteArray} (hs : nameM s = true) (hf : findM D nd s < 0) (h1 : nd.length < 10) (h2 : mv.length < 20) (h3 : nx < 1000000) : Okd ro (nx + 1) (nd ++ [⟨nx, ⟨#[]⟩, 0⟩]) di (mv ++ [⟨1, s, ⟨#[]⟩, nx⟩]) := by
  obtain ⟨n1, n2, n3, n4⟩ := K.names h
  have nid := findM_no n3 hf
  have lt : ∀ i, hasM nd i = true → i < nx := fun i hi => by
    obtain ⟨x, hx, e⟩ := List.mem_map.1 ((hasM_mem nd i).1 hi)
    have := (K.nn x hx).1; omega
  refine ⟨K.r, ⟨by have := K.x; omega, by omega⟩, by rw [List.length_append]; simp; omega, by rw [List.length_append]; simp; omega, K.d, ?_, ?_, ?_, ?_, ?_, K.s, K.dd, ?_, ?_, ?_⟩
  · rw [usedM_snoc]; have := K.u; show usedM nd + ((0 : Nat) : Int) ≤ ro; omega
  · intro x hx
    rcases List.mem_append.1 hx with hx | hx
    · have := K.nn x hx; exact ⟨⟨this.1.1, by omega⟩, this.2⟩
    · rw [List.mem_singleton.1 hx]; exact ⟨⟨K.x.1, by show nx ≤ nx + 1 - 1; omega⟩, by show (0 : Int) ≤ 0; omega, by show (0 : Int) ≤ ((0 : Nat) : Int); omega⟩
  · rw [List.pairwise_append]
    refine ⟨K.np, List.pairwise_singleton _ _, fun x hx y hy => ?_⟩
    rw [List.mem_singleton.1 hy]; have := (K.nn x hx).1; show x.f0 < nx; omega
  · intro x hx
    rw [madeM_snoc, if_pos rfl]
    rcases List.mem_append.1 hx with hx | hx
    · rcases K.o x hx with c | c
      · exact .inl c
      · exact .inr (List.mem_append.2 (.inl c))
    · rw [List.mem_singleton.1 hx]; exact .inr (by simp)
  · intro y hy; exact ⟨(K.dn y hy).1, (hasM_snoc _ _ _).2 (.inl (K.dn y hy).2)⟩
  · rw [movM_snoc, h]
    simp only [Option.bind_some, appM]
    rw [if_pos hs, if_pos trivial, if_pos ⟨nid, rfl⟩]; rfl
  · intro i hi
    rw [madeM_snoc, if_pos rfl] at hi
    rcases List.mem_append.1 hi with hi | hi
    · exact ⟨(hasM_snoc _ _ _).2 (.inl (K.mo i hi).1), (K.mo i hi).2⟩
    · rw [List.mem_singleton.1 hi]
      refine ⟨(hasM_snoc _ _ _).2 (.inr rfl), fun q => ?_⟩
      obtain ⟨y, hy, e⟩ := List.mem_map.1 q
      have := lt _ (K.dn y hy).2; rw [e] at this; exact absurd this (Int.lt_irrefl _)
  · rw [madeM_snoc, if_pos rfl]
    refine List.nodup_append.2 ⟨K.md, by simp, fun a ha b hb e => ?_⟩
    rw [List.mem_singleton.1 hb] at e
    have := lt _ (K.mo a ha).1; rw [e] at this; exact absurd this (Int.lt_irrefl _)
theorem ok_ids {ro nx : Int} {nd nd' : List Nd} {di : List Lk} {mv : List Mv} (K : Okd ro nx nd di mv) (e : (nd'.map fun x => x.f0) = nd.map fun x => x.f0) (h : ∀ x ∈ nd', 0 ≤ x.f2 ∧ x.f2 ≤ (x.f1.size : Int)) (hu : usedM nd' ≤ ro) : Okd ro nx nd' di mv := by
  have hh : ∀ i, hasM nd' i = true ↔ hasM nd i = true := fun i => by rw [hasM_mem, hasM_mem, e]
  have hl : nd'.length = nd.length := by have := congrArg List.length e; rwa [List.length_map, List.length_map] at this
  have f : ∀ x ∈ nd', ∃ y ∈ nd, y.f0 = x.f0 := fun x hx => by
    have : x.f0 ∈ nd'.map fun x => x.f0 := List.mem_map.2 ⟨x, hx, rfl⟩
    rw [e] at this; obtain ⟨y, hy, q⟩ := List.mem_map.1 this; exact ⟨y, hy, q⟩
  refine ⟨K.r, K.x, by rw [hl]; exact K.n, K.m, K.d, hu, fun x hx => ?_, ?_, fun x hx => ?_, fun y hy => ⟨(K.dn y hy).1, (hh _).2 (K.dn y hy).2⟩, K.s, K.dd, K.mm, fun i hi => ⟨(hh _).2 (K.mo i hi).1, (K.mo i hi).2⟩, K.md⟩
  · obtain ⟨y, hy, q⟩ := f x hx; rw [← q]; exact ⟨(K.nn y hy).1, h x hx⟩
  · have := K.np
    rw [← List.pairwise_map (f := fun x : Nd => x.f0) (R := fun a b => a < b)] at this ⊢
    rw [e]; exact this
  · obtain ⟨y, hy, q⟩ := f x hx; rw [← q]; exact K.o y hy
theorem ok_mv {ro nx : Int} {nd : List Nd} {di : List Lk} {mv : List Mv} {D : List Lk} (K : Okd ro nx nd di mv) (h : movM di mv = some D) (m : Mv) (hm : m.f0 ≠ 1) (h2 : mv.length < 20) (ha : (appM D m).isSome = true) : Okd ro nx nd di (mv ++ [m]) := by
  have e : madeM (mv ++ [m]) = madeM mv := by rw [madeM_snoc, if_neg hm]
  exact ⟨K.r, K.x, K.n, by rw [List.length_append]; simp; omega, K.d, K.u, K.nn, K.np, by rw [e]; exact K.o, K.dn, K.s, K.dd, by rw [movM_snoc, h]; exact ha, by rw [e]; exact K.mo, by rw [e]; exact K.md⟩
theorem usedM_sub {l r : List Nd} (h : l.Sublist r) : usedM l ≤ usedM r := by
  rw [usedM_eq, usedM_eq]
  induction h with
  | slnil => exact Int.le_refl _
  | cons a _ ih => rw [usedR]; omega
  | cons_cons a _ ih => rw [usedR, usedR]; omega
theorem ok_settle {ro nx : Int} {nd : List Nd} {di E : List Lk} {mv : List Mv} (K : Okd ro nx nd di mv) (h1 : Srt E) (h2 : (E.map fun y => y.f1).Nodup) (h3 : ∀ y ∈ E, nameM y.f0 = true ∧ hasM nd y.f1 = true) (h4 : E.length ≤ 10) {nd' : List Nd} (hs : nd'.Sublist nd) (hm : ∀ x ∈ nd, x ∈ nd' ↔ x.f0 ∈ E.map fun y => y.f1) : Okd ro nx nd' E [] := by
  refine ⟨K.r, K.x, Nat.le_trans hs.length_le K.n, by simp, h4, Int.le_trans (usedM_sub hs) K.u, fun x hx => K.nn x (hs.subset hx), K.np.sublist hs, fun x hx => .inl ((hm x (hs.subset hx)).1 hx), fun y hy => ⟨(h3 y hy).1, ?_⟩, h1, h2, rfl, by simp [madeM], by simp [madeM]⟩
  rw [hasM_mem]
  obtain ⟨x, hx, e⟩ := List.mem_map.1 ((hasM_mem nd _).1 (h3 y hy).2)
  exact List.mem_map.2 ⟨x, (hm x hx).2 (by rw [e]; exact List.mem_map.2 ⟨y, hy, rfl⟩), e⟩

def Res (A : Rd → Prop) (ro nx : Int) (nd : List Nd) (di : List Lk) (mv : List Mv) (r : Rd) : Prop := (okM ro nx nd di mv = true ∧ ∃ c, c ≠ 0 ∧ r = (ro, nx, nd, di, mv, c)) ∨ (okM ro nx nd di mv = true ∧ A r) ∨ (¬ okM ro nx nd di mv = true ∧ r = (0, 0, [], [], [], 1))
theorem refuse {A : Rd → Prop} {ro nx : Int} {nd : List Nd} {di : List Lk} {mv : List Mv} (h : okM ro nx nd di mv = true) {c : Int} (hc : c ≠ 0) : Res A ro nx nd di mv (ro, nx, nd, di, mv, c) := .inl ⟨h, c, hc, rfl⟩
def MakeS (ro nx : Int) (nd : List Nd) (di : List Lk) (mv : List Mv) (s : ByteArray) (r : Rd) : Prop := ∃ D, movM di mv = some D ∧ nameM s = true ∧ findM D nd s < 0 ∧ nd.length < 10 ∧ mv.length < 20 ∧ nx < 1000000 ∧ r = (ro, nx + 1, nd ++ [⟨nx, ⟨#[]⟩, 0⟩], di, mv ++ [⟨1, s, ⟨#[]⟩, nx⟩], 0)
def AddS (ro nx : Int) (nd : List Nd) (di : List Lk) (mv : List Mv) (s t : ByteArray) (r : Rd) : Prop := ∃ D, movM di mv = some D ∧ nameM s = true ∧ 0 ≤ findM D nd s ∧ findM D nd s < (nd.length : Int) ∧ usedR nd + (t.size : Int) ≤ ro ∧ r = (ro, nx, nd.set (findM D nd s).toNat ⟨(rd_T35 nd (findM D nd s)).f0, (rd_T35 nd (findM D nd s)).f1 ++ t, (rd_T35 nd (findM D nd s)).f2⟩, di, mv, 0)
def SyncS (ro nx : Int) (nd : List Nd) (di : List Lk) (mv : List Mv) (s : ByteArray) (r : Rd) : Prop := ∃ D, movM di mv = some D ∧ nameM s = true ∧ 0 ≤ findM D nd s ∧ findM D nd s < (nd.length : Int) ∧ r = (ro, nx, nd.set (findM D nd s).toNat ⟨(rd_T35 nd (findM D nd s)).f0, (rd_T35 nd (findM D nd s)).f1, (((rd_T35 nd (findM D nd s)).f1).size : Int)⟩, di, mv, 0)
def RenameS (ro nx : Int) (nd : List Nd) (di : List Lk) (mv : List Mv) (s t : ByteArray) (r : Rd) : Prop := ∃ D, movM di mv = some D ∧ (nameM s = true ∧ nameM t = true ∧ s ≠ t) ∧ ¬ findM D nd s < 0 ∧ mv.length < 20 ∧ r = (ro, nx, nd, di, mv ++ [⟨2, s, t, 0⟩], 0)
def DropS (ro nx : Int) (nd : List Nd) (di : List Lk) (mv : List Mv) (s : ByteArray) (r : Rd) : Prop := ∃ D, movM di mv = some D ∧ nameM s = true ∧ ¬ findM D nd s < 0 ∧ mv.length < 20 ∧ r = (ro, nx, nd, di, mv ++ [⟨3, s, ⟨#[]⟩, 0⟩], 0)
def DirS (ro nx : Int) (nd : List Nd) (di : List Lk) (mv : List Mv) (r : Rd) : Prop := ∃ D, movM di mv = some D ∧ r = (ro, nx, delS D nd, D, [], 0)
theorem Fine.nil : Fine [] [] [] := ⟨by simp, by simp, by simp, by simp, by simp, by simp⟩
structure Stp (ro nx : Int) (nd : List Nd) (di : List Lk) (mv : List Mv) (r : Rd) : Prop where
  F : Fine r.2.2.1 r.2.2.2.1 r.2.2.2.2.1
  k : okM ro nx nd di mv = true → okM r.1 r.2.1 r.2.2.1 r.2.2.2.1 r.2.2.2.2.1 = true
  e : okM ro nx nd di mv = true → r.2.2.2.2.2 ≠ 0 → r = (ro, nx, nd, di, mv, r.2.2.2.2.2)
  b : ¬ okM ro nx nd di mv = true → r = (0, 0, [], [], [], 1)
theorem Res.stp {A : Rd → Prop} {ro nx : Int} {nd : List Nd} {di : List Lk} {mv : List Mv} (F : Fine nd di mv) {r : Rd} (h : Res A ro nx nd di mv r) (g : okM ro nx nd di mv = true → A r → Fine r.2.2.1 r.2.2.2.1 r.2.2.2.2.1 ∧ okM r.1 r.2.1 r.2.2.1 r.2.2.2.1 r.2.2.2.2.1 = true ∧ r.2.2.2.2.2 = 0) : Stp ro nx nd di mv r := by
  rcases h with ⟨a, c, hc, rfl⟩ | ⟨a, b⟩ | ⟨a, rfl⟩
  · exact ⟨F, fun _ => a, fun _ _ => rfl, fun q => absurd a q⟩
  · obtain ⟨g1, g2, g3⟩ := g a b
    exact ⟨g1, fun _ => g2, fun _ q => absurd g3 q, fun q => absurd a q⟩
  · exact ⟨Fine.nil, fun q => absurd q a, fun q => absurd q a, fun _ => rfl⟩
theorem rdN_eq {nd : List Nd} {i : Int} (h0 : 0 ≤ i) (h1 : i < (nd.length : Int)) : nd[i.toNat]? = some (rd_T35 nd i) := by
  unfold rd_T35
  rw [List.getD_eq_getElem?_getD, List.getElem?_eq_getElem (by omega)]; rfl
theorem rdN_mem {nd : List Nd} {i : Int} (h0 : 0 ≤ i) (h1 : i < (nd.length : Int)) : rd_T35 nd i ∈ nd := List.mem_of_getElem? (rdN_eq h0 h1)
theorem set_ids : ∀ (nd : List Nd) (i : Nat) (x y : Nd), nd[i]? = some x → y.f0 = x.f0 → (nd.set i y).map (fun z => z.f0) = nd.map fun z => z.f0
  | [], i, x, y, h, _ => by simp at h
  | z :: r, 0, x, y, h, e => by
    simp only [List.getElem?_cons_zero, Option.some.injEq] at h
    simp [h, e]
  | z :: r, i + 1, x, y, h, e => by
    rw [List.getElem?_cons_succ] at h
    rw [List.set_cons_succ, List.map_cons, List.map_cons, set_ids r i x y h e]
theorem set_used : ∀ (nd : List Nd) (i : Nat) (x y : Nd), nd[i]? = some x → usedR (nd.set i y) = usedR nd + (y.f1.size : Int) - (x.f1.size : Int)
  | [], i, x, y, h => by simp at h
  | z :: r, 0, x, y, h => by
    simp only [List.getElem?_cons_zero, Option.some.injEq] at h
    rw [List.set_cons_zero, usedR, usedR, h]; omega
  | z :: r, i + 1, x, y, h => by
    rw [List.getElem?_cons_succ] at h
    rw [List.set_cons_succ, usedR, usedR, set_used r i x y h]; omega
theorem make_stp {ro nx : Int} {nd : List Nd} {di : List Lk} {mv : List Mv} (F : Fine nd di mv) {s : ByteArray} (hz : s.size ≤ 1048576) {r : Rd} (h : Res (MakeS ro nx nd di mv s) ro nx nd di mv r) : Stp ro nx nd di mv r := h.stp F (by
  rintro a ⟨D, hm, hs, hf, h1, h2, h3, rfl⟩
  have K := (okd_iff ro nx nd di mv).1 a
  exact ⟨(F.addNd _ (by omega) (by show (0 : Nat) ≤ _; omega)).addMv _ (by omega) ⟨hz, by show (0 : Nat) ≤ _; omega⟩, (okd_iff _ _ _ _ _).2 (ok_make K hm hs hf h1 h2 h3), rfl⟩)
theorem add_stp {ro nx : Int} {nd : List Nd} {di : List Lk} {mv : List Mv} (F : Fine nd di mv) {s t : ByteArray} {r : Rd} (h : Res (AddS ro nx nd di mv s t) ro nx nd di mv r) : Stp ro nx nd di mv r := h.stp F (by
  rintro a ⟨D, hm, hs, h1, h2, h3, rfl⟩
  have K := (okd_iff ro nx nd di mv).1 a
  have e := rdN_eq h1 h2
  have hx := rdN_mem h1 h2
  have hu := used_mem hx
  have hr := K.r
  have hn := (K.nn _ hx).2
  refine ⟨F.setNd _ _ (by show ByteArray.size (_ ++ _) ≤ _; rw [ByteArray.size_append]; omega), (okd_iff _ _ _ _ _).2 (ok_ids K (set_ids nd _ _ _ e rfl) (fun x hx => ?_) ?_), rfl⟩
  · rcases List.mem_or_eq_of_mem_set hx with hx | rfl
    · exact (K.nn x hx).2
    · refine ⟨hn.1, ?_⟩
      show (rd_T35 nd (findM D nd s)).f2 ≤ ((ByteArray.size (_ ++ _) : Nat) : Int)
      rw [ByteArray.size_append]; omega
  · rw [usedM_eq, set_used nd _ _ _ e]
    show usedR nd + ((ByteArray.size (_ ++ _) : Nat) : Int) - _ ≤ ro
    rw [ByteArray.size_append]; omega)
theorem sync_stp {ro nx : Int} {nd : List Nd} {di : List Lk} {mv : List Mv} (F : Fine nd di mv) {s : ByteArray} {r : Rd} (h : Res (SyncS ro nx nd di mv s) ro nx nd di mv r) : Stp ro nx nd di mv r := h.stp F (by
  rintro a ⟨D, hm, hs, h1, h2, rfl⟩
  have K := (okd_iff ro nx nd di mv).1 a
  have e := rdN_eq h1 h2
  have hx := rdN_mem h1 h2
  have hu := K.u
  refine ⟨F.setNd _ _ (F.nz (rd_T35 nd (findM D nd s)) hx), (okd_iff _ _ _ _ _).2 (ok_ids K (set_ids nd _ _ _ e rfl) (fun x hx => ?_) ?_), rfl⟩
  · rcases List.mem_or_eq_of_mem_set hx with hx | rfl
    · exact (K.nn x hx).2
    · exact ⟨by show (0 : Int) ≤ ((ByteArray.size _ : Nat) : Int); omega, Int.le_refl _⟩
  · rw [usedM_eq] at hu
    rw [usedM_eq, set_used nd _ _ _ e]
    show usedR nd + (((rd_T35 nd (findM D nd s)).f1.size : Nat) : Int) - _ ≤ ro
    omega)
theorem rename_stp {ro nx : Int} {nd : List Nd} {di : List Lk} {mv : List Mv} (F : Fine nd di mv) {s t : ByteArray} (hz : s.size ≤ 1048576) (ht : t.size ≤ 1048576) {r : Rd} (h : Res (RenameS ro nx nd di mv s t) ro nx nd di mv r) : Stp ro nx nd di mv r := h.stp F (by
  rintro a ⟨D, hm, hs, hf, h2, rfl⟩
  have K := (okd_iff ro nx nd di mv).1 a
  obtain ⟨i, hi⟩ := findM_yes hf
  refine ⟨F.addMv _ (by omega) ⟨hz, ht⟩, (okd_iff _ _ _ _ _).2 (ok_mv K hm _ (by show (2 : Int) ≠ 1; decide) h2 ?_), rfl⟩
  simp only [appM]
  rw [if_pos hs.1, if_neg (by decide), if_pos trivial, hi]
  simp only []
  rw [if_pos ⟨trivial, hs.2.1, fun c => hs.2.2 c.symm⟩]; rfl)
theorem drop_stp {ro nx : Int} {nd : List Nd} {di : List Lk} {mv : List Mv} (F : Fine nd di mv) {s : ByteArray} (hz : s.size ≤ 1048576) {r : Rd} (h : Res (DropS ro nx nd di mv s) ro nx nd di mv r) : Stp ro nx nd di mv r := h.stp F (by
  rintro a ⟨D, hm, hs, hf, h2, rfl⟩
  have K := (okd_iff ro nx nd di mv).1 a
  obtain ⟨i, hi⟩ := findM_yes hf
  refine ⟨F.addMv _ (by omega) ⟨hz, by show (0 : Nat) ≤ _; omega⟩, (okd_iff _ _ _ _ _).2 (ok_mv K hm _ (by show (3 : Int) ≠ 1; decide) h2 ?_), rfl⟩
  simp only [appM]
  rw [if_pos hs, if_neg (by decide), if_neg (by decide), if_pos trivial, if_pos ⟨by rw [hi]; simp, rfl, trivial⟩]; rfl)
theorem gone_iff (E : List Lk) (i : Int) : gone E i = false ↔ i ∈ E.map fun y => y.f1 := by
  unfold gone
  rw [Bool.not_eq_false', List.any_eq_true, List.mem_map]
  constructor
  · rintro ⟨x, h, e⟩; exact ⟨x, h, beq_iff_eq.1 e⟩
  · rintro ⟨x, h, e⟩; exact ⟨x, h, beq_iff_eq.2 e⟩
theorem delS_mem {E : List Lk} {nd : List Nd} {x : Nd} (hx : x ∈ nd) : x ∈ delS E nd ↔ x.f0 ∈ E.map fun y => y.f1 := by
  unfold delS
  rw [List.mem_filter, ← gone_iff, Bool.not_eq_true']
  exact ⟨fun h => h.2, fun h => ⟨hx, h⟩⟩
theorem ok_dir {ro nx : Int} {nd : List Nd} {di : List Lk} {mv : List Mv} {D : List Lk} (K : Okd ro nx nd di mv) (h : movM di mv = some D) : Okd ro nx (delS D nd) D [] := by
  obtain ⟨n1, n2, n3, n4⟩ := K.names h
  exact ok_settle K n1 n2 n3 n4 List.filter_sublist (fun x hx => delS_mem hx)
theorem dir_stp {ro nx : Int} {nd : List Nd} {di : List Lk} {mv : List Mv} (F : Fine nd di mv) {r : Rd} (h : Res (DirS ro nx nd di mv) ro nx nd di mv r) : Stp ro nx nd di mv r := h.stp F (by
  rintro a ⟨D, hm, rfl⟩
  have K := (okd_iff ro nx nd di mv).1 a
  obtain ⟨n1, n2, n3, n4⟩ := K.names hm
  have hn := K.n
  refine ⟨⟨?_, ?_, by simp, fun x hx => F.nz x (List.mem_filter.1 hx).1, movM_dz mv hm F.dz F.mz, by simp⟩, (okd_iff _ _ _ _ _).2 (ok_dir K hm), rfl⟩
  · have : (delS D nd).length ≤ nd.length := List.length_filter_le _ _
    show (delS D nd).length ≤ _; omega
  · show D.length ≤ _; omega)

theorem Make_both (ro nx : Int) {nd : List Nd} {di : List Lk} {mv : List Mv} (F : Fine nd di mv) (s : ByteArray) (hz : s.size ≤ 1048576) : ∃ r : Rd, Res (MakeS ro nx nd di mv s) ro nx nd di mv r ∧ (∀ k, 2097600 < k → spec_Make.f k ro nx nd di mv s = some r) ∧ True := by
  by_cases h : okM ro nx nd di mv = true
  · obtain ⟨D, hm, hs, hD, hl, h2, h0, h1⟩ := ok_mov h
    obtain ⟨_, _, n0, n1, _⟩ := okFacts h
    have full : ∀ k b, 0 < k → spec_Make.j0 k s b ro nx nd di mv = if b = true then some (ro, nx, nd, di, mv, 4) else some (ro, nx + 1, nd ++ [⟨nx, ⟨#[]⟩, 0⟩], di, mv ++ [⟨1, s, ⟨#[]⟩, nx⟩], 0) := by
      intro k b hk
      obtain ⟨q, rfl⟩ : ∃ m, k = m + 1 := ⟨k - 1, by omega⟩
      simp only [spec_Make.j0]
      rw [sCopy_f ro nx F]
      simp only [Option.bind_some]
      rw [if_pos (show nd.length < 4398046511104 by omega), if_pos (show mv.length < 2932031007402 by omega), w64 (n := nx + 1) (by omega) (by omega)]
    have S : ∀ k, 2097600 < k → spec_Make.f k ro nx nd di mv s = if nameM s = true then (if findM D nd s ≥ 0 then some (ro, nx, nd, di, mv, 3) else (if (nd.length : Int) ≥ 10 then some (ro, nx, nd, di, mv, 4) else (if (mv.length : Int) ≥ 20 then some (ro, nx, nd, di, mv, 4) else (if nx ≥ 1000000 then some (ro, nx, nd, di, mv, 4) else some (ro, nx + 1, nd ++ [⟨nx, ⟨#[]⟩, 0⟩], di, mv ++ [⟨1, s, ⟨#[]⟩, nx⟩], 0))))) else some (ro, nx, nd, di, mv, 1) := by
      intro k hk
      unfold spec_Make.f
      rw [sOk ro nx F k (by omega)]
      simp only [Option.bind_some]
      rw [if_pos h, l4Name_f s (by omega) k (by omega)]
      simp only [Option.bind_some]
      rw [sFind_f ro nx s hm h0 h1 h2 (by omega) F.mz k (by omega), sCopy_f ro nx F]
      simp only [Option.bind_some]
      rw [full k _ (by omega), full k _ (by omega)]
      simp only [decide_eq_true_eq, if_true]
    have fin : ∀ r : Rd, Res (MakeS ro nx nd di mv s) ro nx nd di mv r → (∀ k, 2097600 < k → spec_Make.f k ro nx nd di mv s = some r) → True → ∃ r : Rd, Res (MakeS ro nx nd di mv s) ro nx nd di mv r ∧ (∀ k, 2097600 < k → spec_Make.f k ro nx nd di mv s = some r) ∧ True := fun r a b c => ⟨r, a, b, c⟩
    by_cases c1 : nameM s = true
    · by_cases c2 : findM D nd s ≥ 0
      · exact fin (ro, nx, nd, di, mv, 3) (refuse h (by decide)) (fun k hk => by rw [S k hk, if_pos c1, if_pos c2]) trivial
      · by_cases c3 : (nd.length : Int) = 10
        · exact fin (ro, nx, nd, di, mv, 4) (refuse h (by decide)) (fun k hk => by rw [S k hk, if_pos c1, if_neg c2, if_pos (by omega)]) trivial
        · by_cases c4 : (mv.length : Int) = 20
          · exact fin (ro, nx, nd, di, mv, 4) (refuse h (by decide)) (fun k hk => by rw [S k hk, if_pos c1, if_neg c2, if_neg (by omega), if_pos (by omega)]) trivial
          · by_cases c5 : nx = 1000000
            · exact fin (ro, nx, nd, di, mv, 4) (refuse h (by decide)) (fun k hk => by rw [S k hk, if_pos c1, if_neg c2, if_neg (by omega), if_neg (by omega), if_pos (by omega)]) trivial
            · exact fin (ro, nx + 1, nd ++ [⟨nx, ⟨#[]⟩, 0⟩], di, mv ++ [⟨1, s, ⟨#[]⟩, nx⟩], 0) (.inr (.inl ⟨h, D, hm, c1, by omega, by omega, by omega, by omega, rfl⟩)) (fun k hk => by rw [S k hk, if_pos c1, if_neg c2, if_neg (by omega), if_neg (by omega), if_neg (by omega)]) trivial
    · exact fin (ro, nx, nd, di, mv, 1) (refuse h (by decide)) (fun k hk => by rw [S k hk, if_neg c1]) trivial
  · refine ⟨(0, 0, [], [], [], 1), (.inr (.inr ⟨h, rfl⟩)), fun k hk => ?_, trivial⟩
    · unfold spec_Make.f
      rw [sOk ro nx F k (by omega)]
      simp only [Option.bind_some]
      rw [if_neg h]

theorem Add_both (ro nx : Int) {nd : List Nd} {di : List Lk} {mv : List Mv} (F : Fine nd di mv) (s : ByteArray) (hz : s.size ≤ 1048576) (t : ByteArray) (ht : t.size ≤ 1048576) : ∃ r : Rd, Res (AddS ro nx nd di mv s t) ro nx nd di mv r ∧ (∀ k, 2097600 < k → spec_Add.f k ro nx nd di mv s t = some r) ∧ True := by
  by_cases h : okM ro nx nd di mv = true
  · obtain ⟨D, hm, hs, hD, hl, h2, h0, h1⟩ := ok_mov h
    obtain ⟨u0, u1, n0, n1, _, _, _, uu⟩ := okFacts h
    have ur := usedR_le nd (fun x hx => by have := F.nz x hx; omega)
    have fnd : ∀ k, 2097000 < k → spec_l4Find.f k ro nx nd di mv s = some (findM D nd s) := fun k hk => sFind_f ro nx s hm h0 h1 h2 (by omega) F.mz k (by omega)
    have j1 : ∀ k c, 2097500 < k → spec_Add.j1 k s t c ro nx nd di mv = if c = 0 then (if 0 ≤ findM D nd s then (if findM D nd s < (nd.length : Int) then (if ((rd_T35 nd (findM D nd s)).f1).size + t.size ≤ 9223372036854775807 then some (ro, nx, nd.set (findM D nd s).toNat ⟨(rd_T35 nd (findM D nd s)).f0, (rd_T35 nd (findM D nd s)).f1 ++ t, (rd_T35 nd (findM D nd s)).f2⟩, di, mv, c) else none) else none) else none) else some (ro, nx, nd, di, mv, c) := by
      intro k c hk
      obtain ⟨q, rfl⟩ : ∃ m, k = m + 1 := ⟨k - 1, by omega⟩
      simp only [spec_Add.j1]
      rw [sCopy_f ro nx F]
      simp only [Option.bind_some]
      rw [fnd q (by omega)]
      simp only [Option.bind_some]
    have j0 : ∀ k c b, 2097600 < k → spec_Add.j0 k s t c b ro nx nd di mv = if b = true then some (ro, nx, nd, di, mv, 4) else spec_Add.j1 (k - 1) s t c ro nx nd di mv := by
      intro k c b hk
      obtain ⟨q, rfl⟩ : ∃ m, k = m + 1 := ⟨k - 1, by omega⟩
      simp only [spec_Add.j0]
      rw [j1 q 4 (by omega), if_neg (show ¬ ((4 : Int) = 0) by decide)]; rfl
    have S : ∀ k, 2097600 < k → spec_Add.f k ro nx nd di mv s t = if namedM D nd s = 0 then (if (t.size : Int) > ro - usedR nd then some (ro, nx, nd, di, mv, 4) else spec_Add.j1 (k - 1) s t (namedM D nd s) ro nx nd di mv) else spec_Add.j1 (k - 1) s t (namedM D nd s) ro nx nd di mv := by
      intro k hk
      unfold spec_Add.f
      rw [sOk ro nx F k (by omega)]
      simp only [Option.bind_some]
      rw [if_pos h, sNamed_f ro nx s hz hm h0 h1 h2 (by omega) F.mz k (by omega)]
      simp only [Option.bind_some]
      rw [l4Bytes_f ro nx nd di mv (by omega) (fun x hx => by have := F.nz x hx; omega) k (by omega)]
      simp only [Option.bind_some]
      rw [w64 (n := ro - usedR nd) (by omega) (by omega), j0 k _ _ hk, j0 k _ _ hk, if_neg (show ¬ (false = true) by decide)]
      simp only [decide_eq_true_eq]
    have fin : ∀ r : Rd, Res (AddS ro nx nd di mv s t) ro nx nd di mv r → (∀ k, 2097600 < k → spec_Add.f k ro nx nd di mv s t = some r) → True → ∃ r : Rd, Res (AddS ro nx nd di mv s t) ro nx nd di mv r ∧ (∀ k, 2097600 < k → spec_Add.f k ro nx nd di mv s t = some r) ∧ True := fun r a b c => ⟨r, a, b, c⟩
    by_cases c1 : nameM s = true
    · rcases findM_range D nd s with c | ⟨d1, d2⟩
      · have hn : namedM D nd s = 2 := by unfold namedM; rw [if_pos c1, if_pos (by omega)]
        exact fin (ro, nx, nd, di, mv, 2) (refuse h (by decide)) (fun k hk => by rw [S k hk, hn, if_neg (by decide), j1 _ _ (by omega), if_neg (by decide)]) trivial
      · have hn : namedM D nd s = 0 := by unfold namedM; rw [if_pos c1, if_neg (by omega)]
        by_cases c2 : usedR nd + (t.size : Int) > ro
        · exact fin (ro, nx, nd, di, mv, 4) (refuse h (by decide)) (fun k hk => by rw [S k hk, hn, if_pos rfl, if_pos (by omega)]) trivial
        · have hm2 : rd_T35 nd (findM D nd s) ∈ nd := by
            unfold rd_T35
            rw [List.getD_eq_getElem?_getD, List.getElem?_eq_getElem (by omega)]
            exact List.getElem_mem _
          have hz2 := F.nz _ hm2
          exact fin (ro, nx, nd.set (findM D nd s).toNat ⟨(rd_T35 nd (findM D nd s)).f0, (rd_T35 nd (findM D nd s)).f1 ++ t, (rd_T35 nd (findM D nd s)).f2⟩, di, mv, 0) (.inr (.inl ⟨h, D, hm, c1, d1, d2, by omega, rfl⟩)) (fun k hk => by rw [S k hk, hn, if_pos rfl, if_neg (by omega), j1 _ _ (by omega), if_pos rfl, if_pos d1, if_pos d2, if_pos (by omega)]) trivial
    · have hn : namedM D nd s = 1 := by unfold namedM; rw [if_neg c1]
      exact fin (ro, nx, nd, di, mv, 1) (refuse h (by decide)) (fun k hk => by rw [S k hk, hn, if_neg (by decide), j1 _ _ (by omega), if_neg (by decide)]) trivial
  · refine ⟨(0, 0, [], [], [], 1), (.inr (.inr ⟨h, rfl⟩)), fun k hk => ?_, trivial⟩
    · unfold spec_Add.f
      rw [sOk ro nx F k (by omega)]
      simp only [Option.bind_some]
      rw [if_neg h]

theorem Sync_both (ro nx : Int) {nd : List Nd} {di : List Lk} {mv : List Mv} (F : Fine nd di mv) (s : ByteArray) (hz : s.size ≤ 1048576) : ∃ r : Rd, Res (SyncS ro nx nd di mv s) ro nx nd di mv r ∧ (∀ k, 2097600 < k → spec_Sync.f k ro nx nd di mv s = some r) ∧ True := by
  by_cases h : okM ro nx nd di mv = true
  · obtain ⟨D, hm, hs, hD, hl, h2, h0, h1⟩ := ok_mov h
    have fnd : ∀ k, 2097600 < k → spec_l4Find.f k ro nx nd di mv s = some (findM D nd s) := fun k hk => sFind_f ro nx s hm h0 h1 h2 (by omega) F.mz k (by omega)
    have S : ∀ k, 2097600 < k → spec_Sync.f k ro nx nd di mv s = if namedM D nd s = 0 then (if 0 ≤ findM D nd s then (if findM D nd s < (nd.length : Int) then some (ro, nx, nd.set (findM D nd s).toNat ⟨(rd_T35 nd (findM D nd s)).f0, (rd_T35 nd (findM D nd s)).f1, (((rd_T35 nd (findM D nd s)).f1).size : Int)⟩, di, mv, namedM D nd s) else none) else none) else some (ro, nx, nd, di, mv, namedM D nd s) := by
      intro k hk
      unfold spec_Sync.f
      rw [sOk ro nx F k (by omega)]
      simp only [Option.bind_some]
      rw [if_pos h, sNamed_f ro nx s hz hm h0 h1 h2 (by omega) F.mz k (by omega)]
      simp only [Option.bind_some]
      rw [sCopy_f ro nx F]
      simp only [Option.bind_some]
      rw [fnd k hk]
      simp only [Option.bind_some]
    by_cases c1 : nameM s = true
    · rcases findM_range D nd s with c | ⟨d1, d2⟩
      · have hn : namedM D nd s = 2 := by unfold namedM; rw [if_pos c1, if_pos (by omega)]
        refine ⟨(ro, nx, nd, di, mv, 2), refuse h (by decide), fun k hk => ?_, trivial⟩
        · rw [S k hk, hn, if_neg (by decide)]
      · have hn : namedM D nd s = 0 := by unfold namedM; rw [if_pos c1, if_neg (by omega)]
        refine ⟨(ro, nx, nd.set (findM D nd s).toNat ⟨(rd_T35 nd (findM D nd s)).f0, (rd_T35 nd (findM D nd s)).f1, (((rd_T35 nd (findM D nd s)).f1).size : Int)⟩, di, mv, 0), (.inr (.inl ⟨h, D, hm, c1, d1, d2, rfl⟩)), fun k hk => ?_, trivial⟩
        · rw [S k hk, hn, if_pos rfl, if_pos d1, if_pos d2]
    · have hn : namedM D nd s = 1 := by unfold namedM; rw [if_neg c1]
      refine ⟨(ro, nx, nd, di, mv, 1), refuse h (by decide), fun k hk => ?_, trivial⟩
      · rw [S k hk, hn, if_neg (by decide)]
  · refine ⟨(0, 0, [], [], [], 1), (.inr (.inr ⟨h, rfl⟩)), fun k hk => ?_, trivial⟩
    · unfold spec_Sync.f
      rw [sOk ro nx F k (by omega)]
      simp only [Option.bind_some]
      rw [if_neg h]

theorem Rename_both (ro nx : Int) {nd : List Nd} {di : List Lk} {mv : List Mv} (F : Fine nd di mv) (s : ByteArray) (hz : s.size ≤ 1048576) (t : ByteArray) (ht : t.size ≤ 1048576) : ∃ r : Rd, Res (RenameS ro nx nd di mv s t) ro nx nd di mv r ∧ (∀ k, 2097600 < k → spec_Rename.f k ro nx nd di mv s t = some r) ∧ True := by
  by_cases h : okM ro nx nd di mv = true
  · obtain ⟨D, hm, hs, hD, hl, h2, h0, h1⟩ := ok_mov h
    have S : ∀ k, 2097600 < k → spec_Rename.f k ro nx nd di mv s t = some (if nameM t = true ∧ s ≠ t then (if namedM D nd s = 0 then (if (mv.length : Int) ≥ 20 then (ro, nx, nd, di, mv, 4) else (ro, nx, nd, di, mv ++ [⟨2, s, t, 0⟩], 0)) else (ro, nx, nd, di, mv, namedM D nd s)) else (ro, nx, nd, di, mv, 1)) := by
      intro k hk
      unfold spec_Rename.f
      rw [sOk ro nx F k (by omega)]
      simp only [Option.bind_some]
      rw [if_pos h, sNamed_f ro nx s hz hm h0 h1 h2 (by omega) F.mz k (by omega), l4Name_f t (by omega) k (by omega)]
      simp only [Option.bind_some, tl_iff]
      rw [sMoved_f ro nx F ⟨2, s, t, 0⟩ 1 k (by omega), sMoved_f ro nx F ⟨2, s, t, 0⟩ (namedM D nd s) k (by omega), if_neg (show ¬ ((1 : Int) = 0) by decide)]
      by_cases c1 : nameM t = true
      · rw [if_pos c1]
        by_cases c2 : s = t
        · rw [if_pos c2, if_neg (show ¬ (nameM t = true ∧ s ≠ t) from fun g => g.2 c2)]; rfl
        · rw [if_neg c2, if_pos (show nameM t = true ∧ s ≠ t from ⟨c1, c2⟩)]; rfl
      · rw [if_neg c1, if_neg (show ¬ (nameM t = true ∧ s ≠ t) from fun g => c1 g.1)]; rfl
    have one : ∀ P : Prop, [Decidable P] → ¬ (nameM s = true ∧ nameM t = true ∧ s ≠ t) → ∃ r : Rd, Res (RenameS ro nx nd di mv s t) ro nx nd di mv r ∧ (∀ k, 2097600 < k → spec_Rename.f k ro nx nd di mv s t = some r) ∧ True := by
      intro P _ hc
      refine ⟨(ro, nx, nd, di, mv, 1), refuse h (by decide), fun k hk => ?_, trivial⟩
      rw [S k hk]
      by_cases c : nameM t = true ∧ s ≠ t
      · have hn : namedM D nd s = 1 := by unfold namedM; rw [if_neg (fun g => hc ⟨g, c⟩)]
        rw [if_pos c, hn, if_neg (by decide)]
      · rw [if_neg c]
    by_cases c1 : nameM s = true ∧ nameM t = true ∧ s ≠ t
    · by_cases c2 : findM D nd s < 0
      · have hn : namedM D nd s = 2 := by unfold namedM; rw [if_pos c1.1, if_pos c2]
        exact ⟨(ro, nx, nd, di, mv, 2), refuse h (by decide), fun k hk => by rw [S k hk, if_pos c1.2, hn, if_neg (by decide)], trivial⟩
      · have hn : namedM D nd s = 0 := by unfold namedM; rw [if_pos c1.1, if_neg c2]
        by_cases c3 : (mv.length : Int) ≥ 20
        · exact ⟨(ro, nx, nd, di, mv, 4), refuse h (by decide), fun k hk => by rw [S k hk, if_pos c1.2, hn, if_pos rfl, if_pos c3], trivial⟩
        · exact ⟨(ro, nx, nd, di, mv ++ [⟨2, s, t, 0⟩], 0), (.inr (.inl ⟨h, D, hm, c1, c2, by omega, rfl⟩)), fun k hk => by rw [S k hk, if_pos c1.2, hn, if_pos rfl, if_neg c3], trivial⟩
    · exact one True c1
  · refine ⟨(0, 0, [], [], [], 1), (.inr (.inr ⟨h, rfl⟩)), fun k hk => ?_, trivial⟩
    · unfold spec_Rename.f
      rw [sOk ro nx F k (by omega)]
      simp only [Option.bind_some]
      rw [if_neg h]

theorem Drop_both (ro nx : Int) {nd : List Nd} {di : List Lk} {mv : List Mv} (F : Fine nd di mv) (s : ByteArray) (hz : s.size ≤ 1048576) : ∃ r : Rd, Res (DropS ro nx nd di mv s) ro nx nd di mv r ∧ (∀ k, 2097600 < k → spec_Drop.f k ro nx nd di mv s = some r) ∧ True := by
  by_cases h : okM ro nx nd di mv = true
  · obtain ⟨D, hm, hs, hD, hl, h2, h0, h1⟩ := ok_mov h
    have S : ∀ k, 2097600 < k → spec_Drop.f k ro nx nd di mv s = some (if namedM D nd s = 0 then (if (mv.length : Int) ≥ 20 then (ro, nx, nd, di, mv, 4) else (ro, nx, nd, di, mv ++ [⟨3, s, ⟨#[]⟩, 0⟩], 0)) else (ro, nx, nd, di, mv, namedM D nd s)) := by
      intro k hk
      unfold spec_Drop.f
      rw [sOk ro nx F k (by omega)]
      simp only [Option.bind_some]
      rw [if_pos h, sNamed_f ro nx s hz hm h0 h1 h2 (by omega) F.mz k (by omega)]
      simp only [Option.bind_some]
      rw [sMoved_f ro nx F ⟨3, s, ⟨#[]⟩, 0⟩ _ k (by omega)]; rfl
    by_cases c1 : nameM s = true
    · by_cases c2 : findM D nd s < 0
      · have hn : namedM D nd s = 2 := by unfold namedM; rw [if_pos c1, if_pos c2]
        exact ⟨(ro, nx, nd, di, mv, 2), refuse h (by decide), fun k hk => by rw [S k hk, hn, if_neg (by decide)], trivial⟩
      · have hn : namedM D nd s = 0 := by unfold namedM; rw [if_pos c1, if_neg c2]
        by_cases c3 : (mv.length : Int) ≥ 20
        · exact ⟨(ro, nx, nd, di, mv, 4), refuse h (by decide), fun k hk => by rw [S k hk, hn, if_pos rfl, if_pos c3], trivial⟩
        · exact ⟨(ro, nx, nd, di, mv ++ [⟨3, s, ⟨#[]⟩, 0⟩], 0), (.inr (.inl ⟨h, D, hm, c1, c2, by omega, rfl⟩)), fun k hk => by rw [S k hk, hn, if_pos rfl, if_neg c3], trivial⟩
    · have hn : namedM D nd s = 1 := by unfold namedM; rw [if_neg c1]
      exact ⟨(ro, nx, nd, di, mv, 1), refuse h (by decide), fun k hk => by rw [S k hk, hn, if_neg (by decide)], trivial⟩
  · refine ⟨(0, 0, [], [], [], 1), (.inr (.inr ⟨h, rfl⟩)), fun k hk => ?_, trivial⟩
    · unfold spec_Drop.f
      rw [sOk ro nx F k (by omega)]
      simp only [Option.bind_some]
      rw [if_neg h]

theorem SyncDir_both (ro nx : Int) {nd : List Nd} {di : List Lk} {mv : List Mv} (F : Fine nd di mv) : ∃ r : Rd, Res (DirS ro nx nd di mv) ro nx nd di mv r ∧ (∀ k, 2097600 < k → spec_SyncDir.f k ro nx nd di mv = some r) ∧ True := by
  by_cases h : okM ro nx nd di mv = true
  · obtain ⟨D, hm, hs, hD, hl, h2, h0, h1⟩ := ok_mov h
    have hdel : (delS D nd).length ≤ nd.length := List.length_filter_le _ _
    refine ⟨(ro, nx, delS D nd, D, [], 0), (.inr (.inl ⟨h, D, hm, rfl⟩)), fun k hk => ?_, trivial⟩
    · unfold spec_SyncDir.f
      rw [sOk ro nx F k (by omega)]
      simp only [Option.bind_some]
      rw [if_pos h, sNames_f ro nx nd hm h1 h2 F.mz k (by omega)]
      simp only [Option.bind_some]
      unfold spec_l4Settled.f
      rw [if_pos (by omega)]
      rfl
  · refine ⟨(0, 0, [], [], [], 1), (.inr (.inr ⟨h, rfl⟩)), fun k hk => ?_, trivial⟩
    · unfold spec_SyncDir.f
      rw [sOk ro nx F k (by omega)]
      simp only [Option.bind_some]
      rw [if_neg h]

theorem nodR_sure (next : Int) : ∀ (l : List Nd) (p : Option Int), nodR next p l = true → ∀ x ∈ l, 0 ≤ x.f2 ∧ x.f2 ≤ (x.f1.size : Int)
  | [], p, _, y, hy => by cases hy
  | x :: r, p, h, y, hy => by
    unfold nodR at h
    simp only [Bool.and_eq_true, decide_eq_true_eq] at h
    obtain ⟨⟨_, h3⟩, h4⟩ := h
    rcases List.mem_cons.1 hy with rfl | hy
    · exact h3
    · exact nodR_sure next r _ h4 y hy
theorem mov_take : ∀ (mv : List Mv) (di D : List Lk) (kk : Nat), movM di mv = some D → ∃ D', movM di (mv.take kk) = some D'
  | mv, di, D, 0, h => ⟨di, by simp [movM]⟩
  | [], di, D, k + 1, h => ⟨di, by simp [movM]⟩
  | m :: b, di, D, k + 1, h => by
    rw [movM] at h
    cases e : appM di m with
    | none => rw [e] at h; cases h
    | some l' =>
      rw [e] at h
      obtain ⟨D', hD⟩ := mov_take b l' D k h
      exact ⟨D', by rw [List.take_succ_cons, movM, e]; exact hD⟩

theorem cutI_pos (cs : List Int) (i : Int) : 0 ≤ cutI cs i := by
  unfold cutI
  repeat' split
  all_goals omega
theorem crash1_at (x : Nd) (c : Int) (h0 : 0 ≤ x.f2) (h1 : x.f2 ≤ (x.f1.size : Int)) (hc : 0 ≤ c) : ∃ n : Nat, x.f2 ≤ (n : Int) ∧ n ≤ x.f1.size ∧ crash1 x c = ⟨x.f0, x.f1.extract 0 n, (n : Int)⟩ := by
  obtain ⟨n, hn⟩ : ∃ n : Nat, (x.f2 + (if (x.f1.size : Int) - x.f2 < c then (x.f1.size : Int) - x.f2 else c)).toNat = n := ⟨_, rfl⟩
  have a : x.f2 ≤ (n : Int) ∧ n ≤ x.f1.size := by rw [← hn]; split <;> omega
  refine ⟨n, a.1, a.2, ?_⟩
  unfold crash1
  rw [hn]
  have : (x.f1.extract 0 n).size = n := by rw [ByteArray.size_extract]; omega
  rw [this]
theorem crashL_ids (cs : List Int) : ∀ (l : List Nd) (i : Int), (crashL cs l i).map (fun x => x.f0) = l.map fun x => x.f0
  | [], _ => rfl
  | x :: r, i => by rw [crashL, List.map_cons, List.map_cons, crashL_ids cs r (i + 1)]; rfl
theorem crashL_mem (cs : List Int) : ∀ (l : List Nd) (i : Int), (∀ x ∈ l, 0 ≤ x.f2 ∧ x.f2 ≤ (x.f1.size : Int)) → ∀ y ∈ crashL cs l i, ∃ x ∈ l, ∃ n : Nat, x.f2 ≤ (n : Int) ∧ n ≤ x.f1.size ∧ y = ⟨x.f0, x.f1.extract 0 n, (n : Int)⟩
  | [], _, _, y, hy => by cases hy
  | x :: r, i, h, y, hy => by
    rw [crashL] at hy
    rcases List.mem_cons.1 hy with rfl | hy
    · obtain ⟨n, a, b, c⟩ := crash1_at x (cutI cs i) (h x List.mem_cons_self).1 (h x List.mem_cons_self).2 (cutI_pos cs i)
      exact ⟨x, List.mem_cons_self, n, a, b, c⟩
    · obtain ⟨z, hz, q⟩ := crashL_mem cs r (i + 1) (fun z hz => h z (List.mem_cons_of_mem _ hz)) y hy
      exact ⟨z, List.mem_cons_of_mem _ hz, q⟩
theorem crashL_used (cs : List Int) : ∀ (l : List Nd) (i : Int), (∀ x ∈ l, 0 ≤ x.f2 ∧ x.f2 ≤ (x.f1.size : Int)) → usedR (crashL cs l i) ≤ usedR l
  | [], _, _ => Int.le_refl _
  | x :: r, i, h => by
    obtain ⟨n, a, b, c⟩ := crash1_at x (cutI cs i) (h x List.mem_cons_self).1 (h x List.mem_cons_self).2 (cutI_pos cs i)
    have ih := crashL_used cs r (i + 1) (fun z hz => h z (List.mem_cons_of_mem _ hz))
    rw [crashL, usedR, usedR, c]
    have : (x.f1.extract 0 n).size = n := by rw [ByteArray.size_extract]; omega
    show ((x.f1.extract 0 n).size : Int) + _ ≤ _
    rw [this]; omega
theorem ok_cut {ro nx : Int} {nd : List Nd} {di : List Lk} {mv : List Mv} (K : Okd ro nx nd di mv) (cs : List Int) : Okd ro nx (crashL cs nd 0) di mv := by
  have h := fun x hx => (K.nn x hx).2
  refine ok_ids K (crashL_ids cs nd 0) (fun y hy => ?_) ?_
  · obtain ⟨x, hx, n, a, b, rfl⟩ := crashL_mem cs nd 0 h y hy
    have : (x.f1.extract 0 n).size = n := by rw [ByteArray.size_extract]; omega
    show 0 ≤ (n : Int) ∧ (n : Int) ≤ ((x.f1.extract 0 n).size : Int)
    rw [this]; omega
  · have := crashL_used cs nd 0 h
    have := K.u
    rw [usedM_eq] at this ⊢; omega
theorem take_names {ro nx : Int} {nd : List Nd} {di : List Lk} {mv : List Mv} {D : List Lk} (K : Okd ro nx nd di mv) (n : Nat) (h : movM di (mv.take n) = some D) : Srt D ∧ (D.map fun y => y.f1).Nodup ∧ (∀ y ∈ D, nameM y.f0 = true ∧ hasM nd y.f1 = true) ∧ D.length ≤ 10 := by
  have hs : (madeM (mv.take n)).Sublist (madeM mv) := ((List.take_sublist n mv).filter _).map _
  obtain ⟨a, b, c⟩ := movM_ids (mv.take n) h K.dd (fun i hi => (K.mo i (hs.subset hi)).2) (hs.nodup K.md) (fun y hy => (K.dn y hy).1)
  have g : ∀ y ∈ D, hasM nd y.f1 = true := fun y hy => by
    rcases b y hy with q | q
    · obtain ⟨z, hz, e⟩ := List.mem_map.1 q
      rw [← e]; exact (K.dn z hz).2
    · exact (K.mo _ (hs.subset q)).1
  have hl := nodup_le _ (nd.map fun x => x.f0) a (fun i hi => by
    obtain ⟨y, hy, rfl⟩ := List.mem_map.1 hi
    exact (hasM_mem nd _).1 (g y hy))
  rw [List.length_map, List.length_map] at hl
  exact ⟨(movM_srt _ K.s h).1, a, fun y hy => ⟨c y hy, g y hy⟩, by have := K.n; omega⟩
theorem ok_crash {ro nx : Int} {nd : List Nd} {di : List Lk} {mv : List Mv} {D : List Lk} (K : Okd ro nx nd di mv) (n : Nat) (h : movM di (mv.take n) = some D) (cs : List Int) : Okd ro nx (delS D (crashL cs nd 0)) D [] := by
  obtain ⟨n1, n2, n3, n4⟩ := take_names (ok_cut K cs) n h
  exact ok_settle (ok_cut K cs) n1 n2 n3 n4 List.filter_sublist (fun x hx => delS_mem hx)
theorem iCrash_ok {ro nx : Int} {nd : List Nd} {di : List Lk} {mv : List Mv} (F : Fine nd di mv) (h : okM ro nx nd di mv = true) (keep : Int) (cuts : List Int) : ∃ n D, movM di (mv.take n) = some D ∧ (n = (keepM keep (mv.length : Int)).toNat) ∧ ∀ k, 2097600 < k → impl_Crash.f k ro nx nd di mv keep cuts = some (ro, nx, delS D (crashL cuts nd 0), D, []) := by
  obtain ⟨D0, hm, hs, hD, hl, h2, h0, h1⟩ := ok_mov h
  obtain ⟨D, hmk⟩ := mov_take mv di D0 (keepM keep (mv.length : Int)).toNat hm
  have hnod := ((okM_spec ro nx nd di mv).1 h).2.2.2.2.2.2.1
  have hok : okS nd = true := by
    unfold okS
    rw [List.all_eq_true]
    intro x hx
    have s := nodR_sure nx nd none hnod x hx
    have s2 := F.nz x hx
    simp only [Bool.and_eq_true, decide_eq_true_eq]
    exact ⟨⟨s.1, s.2⟩, by omega⟩
  have q := movM_srt _ hs hmk
  have hql := q.2
  rw [List.length_take] at hql
  refine ⟨_, D, hmk, rfl, fun k hk => ?_⟩
  unfold impl_Crash.f
  rw [iOk ro nx F k (by omega)]
  simp only [Option.bind_some]
  rw [if_pos h, iCopy_f ro nx F]
  simp only [Option.bind_some]
  rw [if_pos (by omega), if_pos hok, iNames_f hmk hs h1 (by rw [List.length_take]; omega) (fun m hm => F.mz m (List.mem_of_mem_take hm)) k (by omega)]
  simp only [Option.bind_some]
theorem iCrash_bad {ro nx : Int} {nd : List Nd} {di : List Lk} {mv : List Mv} (F : Fine nd di mv) (h : ¬ okM ro nx nd di mv = true) (keep : Int) (cuts : List Int) (k : Nat) (hk : 2097600 < k) : impl_Crash.f k ro nx nd di mv keep cuts = some (0, 0, [], [], []) := by
  unfold impl_Crash.f
  rw [iOk ro nx F k (by omega)]
  simp only [Option.bind_some]
  rw [if_neg h]
theorem and_low (x : Int) : 0 ≤ Go.bits .and .i64 x 255 ∧ Go.bits .and .i64 x 255 < 256 := by
  have e3 : Go.bits .and .i64 x 255 = IntKind.i64.wrap ((BitVec.ofInt 64 x &&& BitVec.ofInt 64 255).toNat : Int) := rfl
  have h : (BitVec.ofInt 64 x &&& BitVec.ofInt 64 255).toNat ≤ 255 := by
    rw [BitVec.toNat_and]
    exact Nat.le_trans Nat.and_le_right (by decide)
  rw [e3]
  generalize (BitVec.ofInt 64 x &&& BitVec.ofInt 64 255).toNat = m at h
  rw [wrapi (by omega) (by omega)]
  omega
theorem l1Byte_ok (l : List Int) (p s : Int) (hl : l.length ≤ 140737488355328) (h0 : 0 ≤ p) (h1 : p ≤ l.length) : ∃ b p' s', spec_l1Byte.f l p s = some (b, p', s') ∧ (0 ≤ b ∧ b < 256) ∧ 0 ≤ p' ∧ p' ≤ l.length := by
  unfold spec_l1Byte.f
  by_cases h : p < (l.length : Int)
  · rw [if_pos h, if_pos h0]
    refine ⟨_, _, _, rfl, and_low _, ?_⟩
    rw [w64 (n := p + 1) (by omega) (by omega)]; omega
  · rw [if_neg h]
    exact ⟨_, _, _, rfl, and_low _, h0, h1⟩
theorem tmod_range {a n : Int} (h0 : 0 ≤ a) (hn : 0 < n) : 0 ≤ Int.tmod a n ∧ Int.tmod a n < n := by
  rw [tmod_nn h0]; exact ⟨Int.emod_nonneg _ (by omega), Int.emod_lt_of_pos _ hn⟩
theorem l1Below_ok (l : List Int) (p s n : Int) (hl : l.length ≤ 140737488355328) (h0 : 0 ≤ p) (h1 : p ≤ l.length) : ∃ v p' s', spec_l1Below.f l p s n = some (v, p', s') ∧ 0 ≤ v ∧ (0 < n → v < n) ∧ 0 ≤ p' ∧ p' ≤ l.length := by
  unfold spec_l1Below.f
  by_cases hn : n ≤ 0
  · rw [if_pos hn]; exact ⟨_, _, _, rfl, by omega, by omega, h0, h1⟩
  · rw [if_neg hn]
    obtain ⟨b, p1, s1, e1, ⟨b0, b1⟩, q0, q1⟩ := l1Byte_ok l p s hl h0 h1
    rw [e1]
    simp only [Option.bind_some]
    by_cases hn2 : n ≤ 256
    · rw [if_pos hn2, if_neg (by omega)]
      have := tmod_range (a := b) (n := n) b0 (by omega)
      exact ⟨_, _, _, rfl, this.1, fun _ => this.2, q0, q1⟩
    · rw [if_neg hn2]
      obtain ⟨c, p2, s2, e2, ⟨c0, c1⟩, q2, q3⟩ := l1Byte_ok l p1 s1 hl q0 q1
      rw [e2]
      simp only [Option.bind_some]
      obtain ⟨d, p3, s3, e3, ⟨d0, d1⟩, q4, q5⟩ := l1Byte_ok l p2 s2 hl q2 q3
      rw [e3]
      simp only [Option.bind_some]
      obtain ⟨f, p4, s4, e4, ⟨f0, f1⟩, q6, q7⟩ := l1Byte_ok l p3 s3 hl q4 q5
      rw [e4]
      simp only [Option.bind_some]
      rw [if_neg (by omega), w64 (n := b * 16777216) (by omega) (by omega), w64 (n := c * 65536) (by omega) (by omega), w64 (n := d * 256) (by omega) (by omega), w64 (n := b * 16777216 + c * 65536) (by omega) (by omega), w64 (n := b * 16777216 + c * 65536 + d * 256) (by omega) (by omega), w64 (n := b * 16777216 + c * 65536 + d * 256 + f) (by omega) (by omega)]
      have := tmod_range (a := b * 16777216 + c * 65536 + d * 256 + f) (n := n) (by omega) (by omega)
      exact ⟨_, _, _, rfl, this.1, fun _ => this.2, q6, q7⟩
theorem l1Text_run : ∀ (d k : Nat) (acc : List Int) (m c : Int) (l : List Int) (p s : Int), c = d → acc.length + d ≤ 1000000 → l.length ≤ 140737488355328 → 0 ≤ p → p ≤ l.length → d < k →
    ∃ t p' s', spec_l1Text.l0 k acc m c l p s = some (t, p', s') ∧ t.size = acc.length + d ∧ 0 ≤ p' ∧ p' ≤ l.length := by
  intro d
  induction d with
  | zero =>
    intro k acc m c l p s hc ha hl h0 h1 hk
    obtain ⟨q, rfl⟩ : ∃ m, k = m + 1 := ⟨k - 1, by omega⟩
    simp only [spec_l1Text.l0]
    rw [if_neg (by omega)]
    exact ⟨_, _, _, rfl, by rw [size_strOfNums]; omega, h0, h1⟩
  | succ d ih =>
    intro k acc m c l p s hc ha hl h0 h1 hk
    obtain ⟨q, rfl⟩ : ∃ m, k = m + 1 := ⟨k - 1, by omega⟩
    obtain ⟨b, p1, s1, e1, _, q0, q1⟩ := l1Byte_ok l p s hl h0 h1
    have hc2 : wrap64 (c - 1) = (d : Int) := by rw [w64 (n := c - 1) (by omega) (by omega)]; omega
    have key : ∀ x, ∃ t p' s', spec_l1Text.l0 q (acc ++ [x]) m (wrap64 (c - 1)) l p1 s1 = some (t, p', s') ∧ t.size = acc.length + (d + 1) ∧ 0 ≤ p' ∧ p' ≤ l.length := by
      intro x
      obtain ⟨t, p', s', e, hs, g0, g1⟩ := ih q (acc ++ [x]) m (wrap64 (c - 1)) l p1 s1 hc2 (by simp; omega) hl q0 q1 (by omega)
      exact ⟨t, p', s', e, by rw [hs]; simp; omega, g0, g1⟩
    simp only [spec_l1Text.l0]
    rw [if_pos (by omega), e1]
    simp only [Option.bind_some]
    by_cases h1m : m = 1
    · rw [if_pos h1m, if_neg (by omega), if_pos (by omega)]; exact key _
    · rw [if_neg h1m]
      by_cases h2m : m = 2
      · rw [if_pos h2m, if_pos (by omega)]; exact key _
      · rw [if_neg h2m, if_pos (by omega)]; exact key _
theorem l1Text_ok (k : Nat) (l : List Int) (p s n : Int) (hl : l.length ≤ 140737488355328) (h0 : 0 ≤ p) (h1 : p ≤ l.length) (n0 : 0 ≤ n) (n1 : n ≤ 100000) (hk : n < k) : ∃ t p' s', spec_l1Text.f k l p s n = some (t, p', s') ∧ (t.size : Int) ≤ n ∧ 0 ≤ p' ∧ p' ≤ l.length := by
  unfold spec_l1Text.f
  obtain ⟨v, p1, s1, e1, _, _, q0, q1⟩ := l1Below_ok l p s 4 hl h0 h1
  rw [e1]
  simp only [Option.bind_some]
  obtain ⟨c, p2, s2, e2, c0, c1, q2, q3⟩ := l1Below_ok l p1 s1 (wrap64 (n + 1)) hl q0 q1
  rw [e2]
  simp only [Option.bind_some]
  have hw := w64 (n := n + 1) (by omega) (by omega)
  rw [hw] at c1
  have c2 := c1 (by omega)
  obtain ⟨t, p', s', e, hs, g⟩ := l1Text_run c.toNat k [] v c l p2 s2 (by omega) (by simp; omega) hl q2 q3 (by omega)
  refine ⟨t, p', s', e, ?_, g⟩
  rw [hs]; simp; omega
theorem l1New_run (l : List Int) (hl : l.length ≤ 140737488355328) : ∀ (d k : Nat) (x3 x4 : Int), 0 ≤ x4 → x4 ≤ 4000 → x4 + d = 4001 → d < k → ∃ s, spec_l1New.l0 k l x3 x4 = some (l, 0, s) := by
  intro d
  induction d with
  | zero => intro k x3 x4 h0 h1 h2; omega
  | succ d ih =>
    intro k x3 x4 h0 h1 h2 hk
    obtain ⟨q, rfl⟩ : ∃ m, k = m + 1 := ⟨k - 1, by omega⟩
    simp only [spec_l1New.l0]
    by_cases a : x4 < (l.length : Int)
    · rw [if_pos a]
      by_cases b : x4 < 4000
      · rw [if_pos b, if_pos h0, w64 (n := x4 + 1) (by omega) (by omega)]
        exact ih q _ _ (by omega) (by omega) (by omega) (by omega)
      · rw [if_neg b]; exact ⟨_, rfl⟩
    · rw [if_neg a]; exact ⟨_, rfl⟩
theorem l1New_ok (l : List Int) (hl : l.length ≤ 140737488355328) (k : Nat) (hk : 4001 < k) : ∃ s, spec_l1New.f k l = some (l, 0, s) := by
  unfold spec_l1New.f
  exact l1New_run l hl 4001 k _ 0 (by omega) (by omega) (by omega) hk

theorem ok_new {ro : Int} (h0 : 0 ≤ ro) (h1 : ro ≤ 1048576) : okM ro 1 [] [] [] = true := by
  rw [okM_spec]
  refine ⟨⟨h0, h1⟩, ⟨by decide, by decide⟩, by simp, by simp, by simp, ?_, ?_⟩
  · rw [usedM_eq]; show (0 : Int) ≤ ro; omega
  · simp [nodR, dirR, mvsR]
theorem newDisk_f {ro : Int} (h0 : 0 ≤ ro) (h1 : ro ≤ 1048576) : spec_NewDisk.f ro = some (ro, 1, [], [], [], true) := by
  unfold spec_NewDisk.f spec_l1In.f
  rw [if_pos h0]; simp only [Option.bind_some]
  rw [if_pos (decide_eq_true h1)]
theorem Fine.addLk {nd : List Nd} {di : List Lk} {mv : List Mv} (F : Fine nd di mv) (x : Lk) (h : di.length ≤ 20) (hx : x.f0.size ≤ 1048576) : Fine nd (di ++ [x]) mv := ⟨F.n, by rw [List.length_append, List.length_singleton]; omega, F.m, F.nz, fun y hy => by
  rcases List.mem_append.1 hy with hy | hy
  · exact F.dz y hy
  · rw [List.mem_singleton] at hy; rw [hy]; exact hx, F.mz⟩

theorem l1Once_ok (l : List Int) (p s n : Int) (hl : l.length ≤ 140737488355328) (h0 : 0 ≤ p) (h1 : p ≤ l.length) : ∃ v p' s', spec_l1Once.f l p s n = some (v, p', s') ∧ 0 ≤ p' ∧ p' ≤ l.length := by
  unfold spec_l1Once.f
  obtain ⟨v, p1, s1, e1, _, _, q0, q1⟩ := l1Below_ok l p s n hl h0 h1
  rw [e1]; exact ⟨_, _, _, rfl, q0, q1⟩
theorem l1PickInt_ok (l : List Int) (p s : Int) (c : List Int) (hc : 0 < c.length) (hl : l.length ≤ 140737488355328) (h0 : 0 ≤ p) (h1 : p ≤ l.length) : ∃ v p' s', spec_l1PickInt.f l p s c = some (v, p', s') ∧ v ∈ c ∧ 0 ≤ p' ∧ p' ≤ l.length := by
  unfold spec_l1PickInt.f
  obtain ⟨v, p1, s1, e1, v0, v1, q0, q1⟩ := l1Below_ok l p s c.length hl h0 h1
  rw [e1]; simp only [Option.bind_some]
  have v2 := v1 (by omega)
  rw [if_pos v0, if_pos v2]
  refine ⟨_, _, _, rfl, ?_, q0, q1⟩
  unfold rd
  rw [List.getD_eq_getElem?_getD, List.getElem?_eq_getElem (by omega)]
  exact List.getElem_mem _
theorem l1Pick_ok (l : List Int) (p s : Int) (c : List ByteArray) (hc : 0 < c.length) (hz : ∀ x ∈ c, x.size ≤ 13) (hl : l.length ≤ 140737488355328) (h0 : 0 ≤ p) (h1 : p ≤ l.length) : ∃ v p' s', spec_l1Pick.f l p s c = some (v, p', s') ∧ v.size ≤ 13 ∧ 0 ≤ p' ∧ p' ≤ l.length := by
  unfold spec_l1Pick.f
  obtain ⟨v, p1, s1, e1, v0, v1, q0, q1⟩ := l1Below_ok l p s c.length hl h0 h1
  rw [e1]; simp only [Option.bind_some]
  have v2 := v1 (by omega)
  rw [if_pos v0, if_pos v2]
  refine ⟨_, _, _, rfl, hz _ ?_, q0, q1⟩
  unfold rdOf
  rw [List.getD_eq_getElem?_getD, List.getElem?_eq_getElem (by omega)]
  exact List.getElem_mem _
theorem drawName_ok (l : List Int) (p s : Int) (hl : l.length ≤ 140737488355328) (h0 : 0 ≤ p) (h1 : p ≤ l.length) : ∃ v p' s', spec_l4DrawName.f l p s = some (v, p', s') ∧ v.size ≤ 13 ∧ 0 ≤ p' ∧ p' ≤ l.length := by
  unfold spec_l4DrawName.f
  obtain ⟨v, p1, s1, e1, q0, q1⟩ := l1Once_ok l p s 30 hl h0 h1
  rw [e1]; simp only [Option.bind_some]
  by_cases hv : v = true
  · rw [if_pos hv]
    obtain ⟨u, p2, s2, e2, u0, q2, q3⟩ := l1Pick_ok l p1 s1 [(⟨#[]⟩ : ByteArray), (⟨#[97, 32, 98]⟩ : ByteArray), (⟨#[97, 98, 99, 100, 101, 102, 103, 104, 105, 106, 107, 108, 109]⟩ : ByteArray), (⟨#[97, 98, 99, 100, 101, 102, 103, 104, 105, 106, 107, 108]⟩ : ByteArray), (⟨#[65]⟩ : ByteArray), (⟨#[97, 47, 98]⟩ : ByteArray)] (by simp) (by decide) hl q0 q1
    rw [e2]; exact ⟨_, _, _, rfl, u0, q2, q3⟩
  · rw [if_neg hv]
    obtain ⟨u, p2, s2, e2, u0, q2, q3⟩ := l1Pick_ok l p1 s1 [(⟨#[108, 111, 103]⟩ : ByteArray), (⟨#[108, 111, 103, 46, 110, 101, 119]⟩ : ByteArray), (⟨#[115, 110, 97, 112]⟩ : ByteArray), (⟨#[97]⟩ : ByteArray), (⟨#[98]⟩ : ByteArray), (⟨#[99, 49]⟩ : ByteArray)] (by simp) (by decide) hl q0 q1
    rw [e2]; exact ⟨_, _, _, rfl, u0, q2, q3⟩
def Drawn (l : List Int) (f : Option (Int × Int × List Nd × List Lk × List Mv × Int × Int)) : Prop := ∃ ro nx nd di mv p s, f = some (ro, nx, nd, di, mv, p, s) ∧ Fine nd di mv ∧ 0 ≤ p ∧ p ≤ (l.length : Int)
theorem spoil_ok (l : List Int) (p s ro nx : Int) {nd : List Nd} {di : List Lk} {mv : List Mv} (F : Fine nd di mv) (h : okM ro nx nd di mv = true) (hl : l.length ≤ 140737488355328) (h0 : 0 ≤ p) (h1 : p ≤ l.length) : Drawn l (spec_l4SpoilDisk.f l p s ro nx nd di mv) := by
  obtain ⟨_, _, n0, n1, m0, m1, m2, _⟩ := okFacts h
  unfold spec_l4SpoilDisk.f
  rw [sCopy_f ro nx F]; simp only [Option.bind_some]
  obtain ⟨v, p1, s1, e1, v0, v1, q0, q1⟩ := l1Below_ok l p s 8 hl h0 h1
  rw [e1]; simp only [Option.bind_some]
  by_cases c0 : v = 0
  · rw [if_pos c0]
    obtain ⟨u, p2, s2, e2, _, q2, q3⟩ := l1PickInt_ok l p1 s1 [(-1), 0, 5, 1048576, 1048577] (by simp) hl q0 q1
    rw [e2]; exact ⟨_, _, _, _, _, _, _, rfl, F, q2, q3⟩
  rw [if_neg c0]
  by_cases c1 : v = 1
  · rw [if_pos c1]
    obtain ⟨u, p2, s2, e2, _, q2, q3⟩ := l1PickInt_ok l p1 s1 [0, 1, 2, 1000000, 1000001] (by simp) hl q0 q1
    rw [e2]; exact ⟨_, _, _, _, _, _, _, rfl, F, q2, q3⟩
  rw [if_neg c1]
  by_cases c2 : v = 2
  · rw [if_pos c2]
    by_cases g : (nd.length : Int) > 0
    · rw [if_pos g]
      obtain ⟨u, p2, s2, e2, u0, u1, q2, q3⟩ := l1Below_ok l p1 s1 nd.length hl q0 q1
      rw [e2]; simp only [Option.bind_some]
      obtain ⟨w, p3, s3, e3, w0, w1, q4, q5⟩ := l1Below_ok l p2 s2 40 hl q2 q3
      rw [e3]; simp only [Option.bind_some]
      have u2 := u1 (by omega)
      rw [if_pos u0, if_pos u2]
      exact ⟨_, _, _, _, _, _, _, rfl, F.setNd _ _ (F.nz (rd_T35 nd u) (rdN_mem u0 u2)), q4, q5⟩
    · rw [if_neg g]; exact ⟨_, _, _, _, _, _, _, rfl, F, q0, q1⟩
  rw [if_neg c2]
  by_cases c3 : v = 3
  · rw [if_pos c3]
    by_cases g : (nd.length : Int) > 0
    · rw [if_pos g]
      obtain ⟨u, p2, s2, e2, u0, u1, q2, q3⟩ := l1Below_ok l p1 s1 nd.length hl q0 q1
      rw [e2]; simp only [Option.bind_some]
      obtain ⟨w, p3, s3, e3, w0, w1, q4, q5⟩ := l1Below_ok l p2 s2 5 hl q2 q3
      rw [e3]; simp only [Option.bind_some]
      have u2 := u1 (by omega)
      rw [if_pos u0, if_pos u2]
      exact ⟨_, _, _, _, _, _, _, rfl, F.setNd _ _ (F.nz (rd_T35 nd u) (rdN_mem u0 u2)), q4, q5⟩
    · rw [if_neg g]; exact ⟨_, _, _, _, _, _, _, rfl, F, q0, q1⟩
  rw [if_neg c3]
  by_cases c4 : v = 4
  · rw [if_pos c4]
    obtain ⟨u, p2, s2, e2, u0, q2, q3⟩ := drawName_ok l p1 s1 hl q0 q1
    rw [e2]; simp only [Option.bind_some]
    obtain ⟨w, p3, s3, e3, w0, w1, q4, q5⟩ := l1Below_ok l p2 s2 4 hl q2 q3
    rw [e3]; simp only [Option.bind_some]
    have := F.d
    rw [if_pos (by omega)]
    exact ⟨_, _, _, _, _, _, _, rfl, F.addLk _ (by omega) (by show u.size ≤ _; omega), q4, q5⟩
  rw [if_neg c4]
  by_cases c5 : v = 5
  · rw [if_pos c5]
    obtain ⟨w, p3, s3, e3, w0, w1, q4, q5⟩ := l1Below_ok l p1 s1 5 hl q0 q1
    rw [e3]; simp only [Option.bind_some]
    obtain ⟨u, p4, s4, e4, u0, q6, q7⟩ := drawName_ok l p3 s3 hl q4 q5
    rw [e4]; simp only [Option.bind_some]
    obtain ⟨x, p5, s5, e5, x0, q8, q9⟩ := drawName_ok l p4 s4 hl q6 q7
    rw [e5]; simp only [Option.bind_some]
    obtain ⟨y, p6, s6, e6, y0, y1, qa, qb⟩ := l1Below_ok l p5 s5 3 hl q8 q9
    rw [e6]; simp only [Option.bind_some]
    have := F.m
    rw [if_pos (by omega)]
    exact ⟨_, _, _, _, _, _, _, rfl, F.addMv _ (by omega) ⟨by show u.size ≤ _; omega, by show x.size ≤ _; omega⟩, qa, qb⟩
  rw [if_neg c5]
  by_cases c6 : v = 6
  · rw [if_pos c6]
    by_cases g : (mv.length : Int) > 0
    · rw [if_pos g]
      obtain ⟨u, p2, s2, e2, u0, u1, q2, q3⟩ := l1Below_ok l p1 s1 mv.length hl q0 q1
      rw [e2]; simp only [Option.bind_some]
      have u2 := u1 (by omega)
      have := F.m
      rw [if_pos u0, if_pos (by omega), w64 (n := u + 1) (by omega) (by omega), if_pos (by omega), if_pos (by omega)]
      refine ⟨_, _, _, _, _, _, _, rfl, ⟨F.n, F.d, ?_, F.nz, F.dz, fun x hx => F.mz x (List.mem_of_mem_eraseIdx hx)⟩, q2, q3⟩
      have := List.length_eraseIdx_le mv u.toNat
      omega
    · rw [if_neg g]; exact ⟨_, _, _, _, _, _, _, rfl, F, q0, q1⟩
  rw [if_neg c6]
  obtain ⟨u, p2, s2, e2, u0, u1, q2, q3⟩ := l1Below_ok l p1 s1 2 hl q0 q1
  rw [e2]; simp only [Option.bind_some]
  have := F.n
  rw [if_pos (by omega)]
  exact ⟨_, _, _, _, _, _, _, rfl, F.addNd _ (by omega) (by show (2 : Nat) ≤ _; omega), q2, q3⟩
theorem some_run (l : List Int) (hl : l.length ≤ 140737488355328) : ∀ (d k : Nat) (c p s ro nx : Int) (nd : List Nd) (di : List Lk) (mv : List Mv), c = (d : Int) → Fine nd di mv → okM ro nx nd di mv = true → 0 ≤ p → p ≤ l.length → d ≤ 100 → 2097601 + 3 * d < k → Drawn l (spec_l4Some.l0 k c l p s ro nx nd di mv) := by
  intro d
  induction d with
  | zero =>
    intro k c p s ro nx nd di mv hc F h h0 h1 _ hk
    obtain ⟨q, rfl⟩ : ∃ m, k = m + 1 := ⟨k - 1, by omega⟩
    simp only [spec_l4Some.l0]
    rw [if_neg (by omega)]
    obtain ⟨v, p1, s1, e1, q0, q1⟩ := l1Once_ok l p s 10 hl h0 h1
    rw [e1]; simp only [Option.bind_some]
    by_cases g : v = true
    · rw [if_pos g]
      obtain ⟨ro', nx', nd', di', mv', p', s', e, F', q2, q3⟩ := spoil_ok l p1 s1 ro nx F h hl q0 q1
      rw [e]; exact ⟨_, _, _, _, _, _, _, rfl, F', q2, q3⟩
    · rw [if_neg g]; exact ⟨_, _, _, _, _, _, _, rfl, F, q0, q1⟩
  | succ d ih =>
    intro k c p s ro nx nd di mv hc F h h0 h1 hd hk
    obtain ⟨q, rfl⟩ : ∃ m, k = m + 3 := ⟨k - 3, by omega⟩
    have nxt : ∀ (k : Nat) (p s : Int) {r : Rd}, q ≤ k → 0 ≤ p → p ≤ l.length → Stp ro nx nd di mv r → Drawn l (spec_l4Some.l0 k (wrap64 (c - 1)) l p s r.1 r.2.1 r.2.2.1 r.2.2.2.1 r.2.2.2.2.1) := by
      intro k p s r g g0 g1 T
      exact ih k _ p s r.1 r.2.1 r.2.2.1 r.2.2.2.1 r.2.2.2.2.1 (by rw [w64 (n := c - 1) (by omega) (by omega)]; omega) T.F (T.k h) g0 g1 (by omega) (by omega)
    simp only [spec_l4Some.l0]
    rw [if_pos (by omega)]
    obtain ⟨nm, p1, s1, e1, nz, q0, q1⟩ := drawName_ok l p s hl h0 h1
    rw [e1]; simp only [Option.bind_some]
    obtain ⟨v, p2, s2, e2, v0, v1, q2, q3⟩ := l1Below_ok l p1 s1 10 hl q0 q1
    rw [e2]; simp only [Option.bind_some]
    have j2 : ∀ b : Bool, Drawn l (spec_l4Some.j2 (q + 1) c nm v b l p2 s2 ro nx nd di mv) := by
      intro b
      simp only [spec_l4Some.j2]
      by_cases hb : b = true
      · rw [if_pos hb]
        obtain ⟨t, p3, s3, e3, tz, q4, q5⟩ := l1Text_ok q l p2 s2 20 hl q2 q3 (by omega) (by omega) (by omega)
        rw [e3]; simp only [Option.bind_some]
        obtain ⟨r, a, e, _⟩ := Add_both ro nx F nm (by omega) t (by omega)
        rw [e q (by omega)]; exact nxt q p3 s3 (by omega) q4 q5 (add_stp F a)
      rw [if_neg hb]
      by_cases g6 : v = 6
      · rw [if_pos g6]
        obtain ⟨r, a, e, _⟩ := Sync_both ro nx F nm (by omega)
        rw [e q (by omega)]; exact nxt q p2 s2 (by omega) q2 q3 (sync_stp F a)
      rw [if_neg g6]
      by_cases g7 : v = 7
      · rw [if_pos g7]
        obtain ⟨t, p3, s3, e3, tz, q4, q5⟩ := drawName_ok l p2 s2 hl q2 q3
        rw [e3]; simp only [Option.bind_some]
        obtain ⟨r, a, e, _⟩ := Rename_both ro nx F nm (by omega) t (by omega)
        rw [e q (by omega)]; exact nxt q p3 s3 (by omega) q4 q5 (rename_stp F (by omega) (by omega) a)
      rw [if_neg g7]
      by_cases g8 : v = 8
      · rw [if_pos g8]
        obtain ⟨r, a, e, _⟩ := Drop_both ro nx F nm (by omega)
        rw [e q (by omega)]; exact nxt q p2 s2 (by omega) q2 q3 (drop_stp F (by omega) a)
      rw [if_neg g8]
      obtain ⟨r, a, e, _⟩ := SyncDir_both ro nx F
      rw [e q (by omega)]; exact nxt q p2 s2 (by omega) q2 q3 (dir_stp F a)
    have j1 : ∀ b : Bool, Drawn l (spec_l4Some.j1 (q + 2) c nm v b l p2 s2 ro nx nd di mv) := by
      intro b
      simp only [spec_l4Some.j1]
      by_cases hb : b = true
      · rw [if_pos hb]
        obtain ⟨r, a, e, _⟩ := Make_both ro nx F nm (by omega)
        rw [e (q + 1) (by omega)]; exact nxt (q + 1) p2 s2 (by omega) q2 q3 (make_stp F (by omega) a)
      rw [if_neg hb]
      split
      · exact j2 _
      · split
        · exact j2 _
        · exact j2 _
    split
    · exact j1 _
    · split
      · exact j1 _
      · exact j1 _
theorem some_ok (l : List Int) (hl : l.length ≤ 140737488355328) (p s n : Int) (h0 : 0 ≤ p) (h1 : p ≤ l.length) (n0 : 0 < n) (n1 : n ≤ 100) (k : Nat) (hk : 2097902 < k) : Drawn l (spec_l4Some.f k l p s n) := by
  unfold spec_l4Some.f
  obtain ⟨v, p1, s1, e1, v0, q0, q1⟩ := l1PickInt_ok l p s [300, 300, 60, 100000, 0] (by simp) hl h0 h1
  rw [e1]; simp only [Option.bind_some]
  have v1 : 0 ≤ v ∧ v ≤ 1048576 := by
    simp only [List.mem_cons, List.not_mem_nil, or_false] at v0
    omega
  rw [newDisk_f v1.1 v1.2]; simp only [Option.bind_some]
  obtain ⟨u, p2, s2, e2, u0, u1, q2, q3⟩ := l1Below_ok l p1 s1 n hl q0 q1
  rw [e2]; simp only [Option.bind_some]
  have u2 := u1 n0
  exact some_run l hl u.toNat k u p2 s2 v 1 [] [] [] (by omega) Fine.nil (ok_new v1.1 v1.2) q2 q3 (by omega) (by omega)
theorem size_ok (l : List Int) (hl : l.length ≤ 1048576) (n : Int) (h0 : 0 < n) (h1 : n ≤ 100) : ∃ m, spec_l1Size.f l n = some m ∧ 0 < m ∧ m ≤ 100 := by
  unfold spec_l1Size.f
  rw [w64 (n := (l.length : Int) / 20) (by omega) (by omega), w64 (n := 2 + (l.length : Int) / 20) (by omega) (by omega)]
  split
  · exact ⟨_, rfl, h0, h1⟩
  · exact ⟨_, rfl, by omega, by omega⟩

theorem crash_run (l0 l : List Int) (h0 : l0.length ≤ 1048576) (hl : l.length ≤ 140737488355328) (w : Int) : ∀ (d k : Nat) (acc : List Int) (c p s : Int), c = (d : Int) → acc.length + d ≤ 1000 → 0 ≤ p → p ≤ l.length → 2098000 + d < k → ∃ ro nx nd di mv cs, spec_DrawCrash.l0 k l0 w acc c l p s = some (ro, nx, nd, di, mv, w, cs) ∧ Fine nd di mv := by
  intro d
  induction d with
  | zero =>
    intro k acc c p s hc hd p0 p1 hk
    obtain ⟨q, rfl⟩ : ∃ m, k = m + 1 := ⟨k - 1, by omega⟩
    simp only [spec_DrawCrash.l0]
    rw [if_neg (by omega)]
    obtain ⟨m, e, m0, m1⟩ := size_ok l0 h0 40 (by omega) (by omega)
    rw [e]; simp only [Option.bind_some]
    obtain ⟨ro, nx, nd, di, mv, p2, s2, e2, F, _⟩ := some_ok l hl p s m p0 p1 m0 m1 q (by omega)
    rw [e2]; exact ⟨_, _, _, _, _, _, rfl, F⟩
  | succ d ih =>
    intro k acc c p s hc hd p0 p1 hk
    obtain ⟨q, rfl⟩ : ∃ m, k = m + 1 := ⟨k - 1, by omega⟩
    simp only [spec_DrawCrash.l0]
    rw [if_pos (by omega)]
    obtain ⟨v, p2, s2, e2, v0, v1, q2, q3⟩ := l1Below_ok l p s 30 hl p0 p1
    rw [e2]; simp only [Option.bind_some]
    rw [if_pos (by omega)]
    exact ih q _ _ p2 s2 (by rw [w64 (n := c - 1) (by omega) (by omega)]; omega) (by rw [List.length_append, List.length_singleton]; omega) q2 q3 (by omega)
theorem drawCrash_ok (l : List Int) (hl : l.length ≤ 1048576) (k : Nat) (hk : 2099000 < k) : ∃ ro nx nd di mv keep cs, spec_DrawCrash.f k l = some (ro, nx, nd, di, mv, keep, cs) ∧ Fine nd di mv := by
  unfold spec_DrawCrash.f
  obtain ⟨s, e⟩ := l1New_ok l (by omega) k (by omega)
  rw [e]; simp only [Option.bind_some]
  obtain ⟨v, p1, s1, e1, v0, v1, q0, q1⟩ := l1Below_ok l 0 s 8 (by omega) (by omega) (by omega)
  rw [e1]; simp only [Option.bind_some]
  obtain ⟨u, p2, s2, e2, u0, u1, q2, q3⟩ := l1Below_ok l p1 s1 5 (by omega) q0 q1
  rw [e2]; simp only [Option.bind_some]
  have u2 := u1 (by omega)
  obtain ⟨ro, nx, nd, di, mv, cs, e3, F⟩ := crash_run l l hl (by omega) (wrap64 (v - 1)) u.toNat k [] u p2 s2 (by omega) (by simp; omega) q2 q3 (by omega)
  exact ⟨_, _, _, _, _, _, _, e3, F⟩

def Has (D : List Lk) (nd : List Nd) (s : ByteArray) (x : Nd) : Prop := x ∈ nd ∧ idM D s = some x.f0
theorem ixf_at (i : Int) : ∀ (l : List Nd) (o : Int), 0 ≤ o → hasM l i = true → ∃ x ∈ l, x.f0 = i ∧ l[(ixf i l o - o).toNat]? = some x
  | [], _, _, h => by simp [hasM] at h
  | y :: r, o, ho, h => by
    rw [ixf]
    by_cases e : y.f0 = i
    · rw [if_pos (by simpa using e)]
      exact ⟨y, List.mem_cons_self, e, by rw [Int.sub_self]; rfl⟩
    · rw [if_neg (by simpa using e)]
      have h' : hasM r i = true := by simpa [hasM, e] using h
      obtain ⟨x, hx, e1, e2⟩ := ixf_at i r (o + 1) (by omega) h'
      refine ⟨x, List.mem_cons_of_mem _ hx, e1, ?_⟩
      rcases ixf_range i r (o + 1) (by omega) with ⟨_, g⟩ | ⟨g, _⟩
      · rw [g] at h'; cases h'
      · rw [show (ixf i r (o + 1) - o).toNat = (ixf i r (o + 1) - (o + 1)).toNat + 1 by omega, List.getElem?_cons_succ]; exact e2
theorem ids_one : ∀ {l : List Nd}, (l.Pairwise fun x y => x.f0 < y.f0) → ∀ {x y : Nd}, x ∈ l → y ∈ l → x.f0 = y.f0 → x = y
  | [], _, _, _, hx, _, _ => by cases hx
  | z :: r, h, x, y, hx, hy, e => by
    rw [List.pairwise_cons] at h
    rcases List.mem_cons.1 hx with e1 | hx
    · rcases List.mem_cons.1 hy with e2 | hy
      · rw [e1, e2]
      · have := h.1 y hy; rw [e1] at e; omega
    · rcases List.mem_cons.1 hy with e2 | hy
      · have := h.1 x hx; rw [e2] at e; omega
      · exact ids_one h.2 hx hy e
theorem has_find {D : List Lk} {nd : List Nd} {s : ByteArray} {x : Nd} (hp : nd.Pairwise fun x y => x.f0 < y.f0) (h : Has D nd s x) : 0 ≤ findM D nd s ∧ findM D nd s < (nd.length : Int) ∧ rd_T35 nd (findM D nd s) = x := by
  have f : findM D nd s = ixf x.f0 nd 0 := by unfold findM; rw [h.2]
  have g : hasM nd x.f0 = true := by
    unfold hasM
    rw [List.any_eq_true]
    exact ⟨x, h.1, by simp⟩
  rw [f]
  rcases ixf_range x.f0 nd 0 (by omega) with ⟨_, q⟩ | ⟨q0, q1, _⟩
  · rw [q] at g; cases g
  · obtain ⟨y, hy, e1, e2⟩ := ixf_at x.f0 nd 0 (by omega) g
    rw [Int.sub_zero, rdN_eq q0 (by omega)] at e2
    refine ⟨q0, by omega, ?_⟩
    rw [Option.some.inj e2]
    exact ids_one hp hy h.1 e1
theorem crashL_has (cs : List Int) : ∀ (l : List Nd) (i : Int), (∀ x ∈ l, 0 ≤ x.f2 ∧ x.f2 ≤ (x.f1.size : Int)) → ∀ x ∈ l, ∃ n : Nat, x.f2 ≤ (n : Int) ∧ n ≤ x.f1.size ∧ (⟨x.f0, x.f1.extract 0 n, (n : Int)⟩ : Nd) ∈ crashL cs l i
  | [], _, _, x, hx => by cases hx
  | z :: r, i, h, x, hx => by
    rw [crashL]
    rcases List.mem_cons.1 hx with rfl | hx
    · have hz := h x List.mem_cons_self
      obtain ⟨n, a, b, c⟩ := crash1_at x (cutI cs i) hz.1 hz.2 (cutI_pos cs i)
      exact ⟨n, a, b, by rw [c]; exact List.mem_cons_self⟩
    · obtain ⟨n, a, b, c⟩ := crashL_has cs r (i + 1) (fun z hz => h z (List.mem_cons_of_mem _ hz)) x hx
      exact ⟨n, a, b, List.mem_cons_of_mem _ c⟩
theorem crash_has {ro nx : Int} {nd : List Nd} {di E : List Lk} {mv : List Mv} {s : ByteArray} {x : Nd} (K : Okd ro nx nd di mv) (hx : x ∈ nd) (he : idM E s = some x.f0) (cs : List Int) : ∃ n : Nat, x.f2 ≤ (n : Int) ∧ n ≤ x.f1.size ∧ Has E (delS E (crashL cs nd 0)) s ⟨x.f0, x.f1.extract 0 n, (n : Int)⟩ := by
  obtain ⟨n, a, b, c⟩ := crashL_has cs nd 0 (fun x hx => (K.nn x hx).2) x hx
  refine ⟨n, a, b, ?_, he⟩
  rw [delS_mem c]
  obtain ⟨z, hz, _, z1⟩ := idM_some he
  exact List.mem_map.2 ⟨z, hz, z1⟩
theorem begins_f {a b : ByteArray} (h0 : a.size ≤ b.size) (h : b.extract 0 a.size = a) : laws_begins.f a b = some true := by
  unfold laws_begins.f
  rw [if_pos (by omega), if_pos (by omega), Int.toNat_natCast, h]; simp

theorem sList_run : ∀ (b a : List Lk) (o : List ByteArray) (k : Nat), a.length + b.length ≤ 1000 → o.length ≤ a.length → b.length < k → spec_List.l0 k o (a ++ b) (a.length : Int) = some (o ++ b.map fun y => y.f0)
  | [], a, o, k, h0, ho, hk => by
    obtain ⟨q, rfl⟩ : ∃ m, k = m + 1 := ⟨k - 1, by omega⟩
    simp only [spec_List.l0]; rw [if_neg (by simp)]; simp
  | x :: b, a, o, k, h0, ho, hk => by
    simp only [List.length_cons] at h0 hk
    obtain ⟨q, rfl⟩ : ∃ m, k = m + 1 := ⟨k - 1, by omega⟩
    have f := sList_run b (a ++ [x]) (o ++ [x.f0]) q (by simp; omega) (by simp; omega) (by omega)
    rw [List.append_assoc, List.singleton_append, show (((a ++ [x]).length : Nat) : Int) = (a.length : Int) + 1 by simp] at f
    simp only [spec_List.l0]
    rw [if_pos (by simp; omega), if_pos (by omega), if_pos (by omega), rdA37, w64 (n := (a.length : Int) + 1) (by omega) (by omega), f]; simp
theorem iList_run : ∀ (b a : List Lk) (o : List ByteArray) (k : Nat), a.length + b.length ≤ 1000 → o.length ≤ a.length → b.length < k → impl_List.l0 k o (a ++ b) (((a ++ b).length : Nat) : Int) (a.length : Int) = some (o ++ b.map fun y => y.f0)
  | [], a, o, k, h0, ho, hk => by
    obtain ⟨q, rfl⟩ : ∃ m, k = m + 1 := ⟨k - 1, by omega⟩
    simp only [impl_List.l0]; rw [if_neg (by simp)]; simp
  | x :: b, a, o, k, h0, ho, hk => by
    simp only [List.length_cons] at h0 hk
    obtain ⟨q, rfl⟩ : ∃ m, k = m + 1 := ⟨k - 1, by omega⟩
    have f := iList_run b (a ++ [x]) (o ++ [x.f0]) q (by simp; omega) (by simp; omega) (by omega)
    rw [List.append_assoc, List.singleton_append, show (((a ++ [x]).length : Nat) : Int) = (a.length : Int) + 1 by simp] at f
    simp only [impl_List.l0]
    rw [if_pos (by simp; omega), if_pos (by omega), if_pos (by simp; omega), if_pos (by omega), rdA37, w64 (n := (a.length : Int) + 1) (by omega) (by omega), f]; simp
theorem sListOk (ro nx : Int) {nd : List Nd} {di : List Lk} {mv : List Mv} {D : List Lk} (F : Fine nd di mv) (h : okM ro nx nd di mv = true) (hE : movM di mv = some D) (k : Nat) (hk : 2097500 < k) : spec_List.f k ro nx nd di mv = some (D.map fun y => y.f0) := by
  obtain ⟨D', hm, hs, hD, hl, h2, h0, h1⟩ := ok_mov h
  obtain rfl : D' = D := Option.some.inj (hm.symm.trans hE)
  unfold spec_List.f
  simp only [Option.bind_some]
  rw [sOk ro nx F k hk]
  simp only [Option.bind_some]
  rw [if_pos h, sNames_f ro nx nd hm h1 h2 F.mz k (by omega)]
  simp only [Option.bind_some]
  have f := sList_run D' [] [] k (by simp; omega) (by simp) (by omega)
  simpa using f
theorem iListOk (ro nx : Int) {nd : List Nd} {di : List Lk} {mv : List Mv} {D : List Lk} (F : Fine nd di mv) (h : okM ro nx nd di mv = true) (hE : movM di mv = some D) (k : Nat) (hk : 2097500 < k) : impl_List.f k ro nx nd di mv = some (D.map fun y => y.f0) := by
  obtain ⟨D', hm, hs, hD, hl, h2, h0, h1⟩ := ok_mov h
  obtain rfl : D' = D := Option.some.inj (hm.symm.trans hE)
  unfold impl_List.f
  simp only [Option.bind_some]
  rw [iOk ro nx F k hk]
  simp only [Option.bind_some]
  rw [if_pos h, iNames_f hm hs h1 h2 F.mz k (by omega)]
  simp only [Option.bind_some]
  have f := iList_run D' [] [] k (by simp; omega) (by simp) (by omega)
  simpa using f

theorem crash_fine {nd : List Nd} {di D : List Lk} {mv : List Mv} {ro nx : Int} (F : Fine nd di mv) (h : okM ro nx nd di mv = true) (n : Nat) (hD : movM di (mv.take n) = some D) (cs : List Int) : Fine (delS D (crashL cs nd 0)) D [] := by
  have K := (okd_iff ro nx nd di mv).1 h
  obtain ⟨_, _, n0, n1, m0, m1, m2, _⟩ := okFacts h
  obtain ⟨_, _, _, g⟩ := take_names K n hD
  have hk := fun x hx => (K.nn x hx).2
  have ln : (crashL cs nd 0).length = nd.length := by
    have := congrArg List.length (crashL_ids cs nd 0)
    simpa using this
  have : (delS D (crashL cs nd 0)).length ≤ (crashL cs nd 0).length := List.length_filter_le _ _
  refine ⟨by omega, by omega, by simp, fun x hx => ?_, movM_dz _ hD F.dz (fun m hm => F.mz m (List.mem_of_mem_take hm)), by simp⟩
  obtain ⟨z, hz, m, e1, e2, rfl⟩ := crashL_mem cs nd 0 hk x (List.mem_filter.1 hx).1
  have := F.nz z hz
  show (z.f1.extract 0 m).size ≤ _
  rw [ByteArray.size_extract]; omega

def namB (di : List Lk) (ms : List Mv) (x : Nd) : Bool := di.any (fun y => y.f1 == x.f0) || ms.any (fun m => decide (m.f0 = 1) && (m.f3 == x.f0))
theorem nm_l1 (n i ro nx : Int) (acc nd : List Nd) (di : List Lk) (mv : List Mv) (rx nxx : Int) (ndx : List Nd) (dix : List Lk) (mvx mvn : List Mv) (nz : List Nd) (x : Nd) (i0 : 0 ≤ i) (i1 : i < (nd.length : Int)) (hx : rd_T35 nd i = x) (hl : di.length ≤ 1000) : ∀ (b a : List Lk) (k : Nat) (v : Bool), a ++ b = di → laws_FnNames.l1 (k + b.length + 1) n acc i v (a.length : Int) ro nx nd di mv rx nxx ndx dix mvx ro nx nd di mvn ro nx nz di mvn = laws_FnNames.l2 k n acc i (v || b.any (fun y => y.f1 == x.f0)) 0 ro nx nd di mv rx nxx ndx dix mvx ro nx nd di mvn ro nx nz di mvn := by
  intro b
  induction b with
  | nil =>
    intro a k v e
    rw [List.append_nil] at e
    simp only [List.length_nil, Nat.add_zero, laws_FnNames.l1]
    rw [if_neg (by rw [e]; omega)]; simp
  | cons y b ih =>
    intro a k v e
    have el := congrArg List.length e
    rw [List.length_append, List.length_cons] at el
    have e2 : (a ++ [y]) ++ b = di := by rw [List.append_assoc]; exact e
    have nxt := fun v => ih (a ++ [y]) k v e2
    rw [show (((a ++ [y]).length : Nat) : Int) = (a.length : Int) + 1 by simp] at nxt
    obtain ⟨q, hq⟩ : ∃ q, q = k + b.length + 1 := ⟨_, rfl⟩
    rw [← hq] at nxt
    rw [List.length_cons, show k + (b.length + 1) + 1 = q + 1 by omega]
    simp only [laws_FnNames.l1]
    rw [if_pos (by omega)]
    by_cases hv : v = true
    · rw [if_pos hv, w64 (n := (a.length : Int) + 1) (by omega) (by omega), nxt true, hv]; simp
    · rw [if_neg hv, if_pos (by omega), if_pos i0, if_pos i1, w64 (n := (a.length : Int) + 1) (by omega) (by omega), nxt, hx]
      have hy : rd_T37 di (a.length : Int) = y := by rw [← e]; exact rdA37 a y b
      rw [hy, List.any_cons]
      rw [Bool.not_eq_true] at hv
      rw [hv]; simp
theorem nm_l2 (n i ro nx : Int) (acc nd : List Nd) (di : List Lk) (mv : List Mv) (rx nxx : Int) (ndx : List Nd) (dix : List Lk) (mvx mvn : List Mv) (nz : List Nd) (x : Nd) (i0 : 0 ≤ i) (i1 : i < (nd.length : Int)) (hx : rd_T35 nd i = x) (hl : mv.length ≤ 1000) : ∀ (b a c : List Mv) (k : Nat) (v : Bool), a ++ b ++ c = mv → n = ((a ++ b).length : Int) → laws_FnNames.l2 (k + b.length + 1) n acc i v (a.length : Int) ro nx nd di mv rx nxx ndx dix mvx ro nx nd di mvn ro nx nz di mvn = if (v || b.any (fun m => decide (m.f0 = 1) && (m.f3 == x.f0))) = true then laws_FnNames.l0 k n nz (wrap64 (i + 1)) ro nx nd di mv rx nxx ndx dix mvx ro nx nd di mvn else laws_FnNames.l0 k n acc (wrap64 (i + 1)) ro nx nd di mv rx nxx ndx dix mvx ro nx nd di mvn := by
  intro b
  induction b with
  | nil =>
    intro a c k v e hn
    rw [List.append_nil] at hn
    simp only [List.length_nil, Nat.add_zero, laws_FnNames.l2]
    rw [if_neg (by omega)]; simp
  | cons y b ih =>
    intro a c k v e hn
    have el := congrArg List.length e
    rw [List.length_append, List.length_append, List.length_cons] at el
    rw [List.length_append, List.length_cons] at hn
    have e2 : (a ++ [y]) ++ b ++ c = mv := by rw [← e]; simp
    have nxt := fun v => ih (a ++ [y]) c k v e2 (by simp; omega)
    rw [show (((a ++ [y]).length : Nat) : Int) = (a.length : Int) + 1 by simp] at nxt
    obtain ⟨q, hq⟩ : ∃ q, q = k + b.length + 1 := ⟨_, rfl⟩
    rw [← hq] at nxt
    rw [List.length_cons, show k + (b.length + 1) + 1 = q + 1 by omega]
    simp only [laws_FnNames.l2]
    rw [if_pos (by omega)]
    by_cases hv : v = true
    · rw [if_pos hv, w64 (n := (a.length : Int) + 1) (by omega) (by omega), nxt true, hv]; simp
    · have hy : rd_T39 mv (a.length : Int) = y := by rw [← e, List.append_assoc]; exact rdA39 a y (b ++ c)
      rw [if_neg hv, if_pos (by omega), if_pos (by omega), w64 (n := (a.length : Int) + 1) (by omega) (by omega), hy]
      rw [Bool.not_eq_true] at hv
      by_cases h1 : y.f0 = 1
      · rw [if_pos h1, if_pos i0, if_pos i1, nxt, hx, hv, List.any_cons]; simp [h1]
      · rw [if_neg h1, nxt false, hv, List.any_cons]; simp [h1]
theorem nm_filter {ro nx : Int} {nd : List Nd} {di : List Lk} {mv : List Mv} {E : List Lk} (K : Okd ro nx nd di mv) (n : Nat) (h : movM di (mv.take n) = some E) : Okd ro nx (nd.filter (namB di (mv.take n))) di (mv.take n) := by
  have hs : (madeM (mv.take n)).Sublist (madeM mv) := ((List.take_sublist n mv).filter _).map _
  have hf : (nd.filter (namB di (mv.take n))).Sublist nd := List.filter_sublist
  have hn : ∀ x, namB di (mv.take n) x = true ↔ x.f0 ∈ di.map (fun y => y.f1) ∨ x.f0 ∈ madeM (mv.take n) := by
    intro x
    unfold namB madeM
    rw [Bool.or_eq_true, List.any_eq_true, List.any_eq_true, List.mem_map, List.mem_map]
    constructor
    · rintro (⟨y, hy, e⟩ | ⟨m, hm, e⟩)
      · exact .inl ⟨y, hy, by simpa using e⟩
      · rw [Bool.and_eq_true, decide_eq_true_eq] at e
        exact .inr ⟨m, List.mem_filter.2 ⟨hm, by simpa using e.1⟩, by simpa using e.2⟩
    · rintro (⟨y, hy, e⟩ | ⟨m, hm, e⟩)
      · exact .inl ⟨y, hy, by simpa using e⟩
      · obtain ⟨h1, h2⟩ := List.mem_filter.1 hm
        exact .inr ⟨m, h1, by rw [Bool.and_eq_true]; exact ⟨h2, by simpa using e⟩⟩
  have hh : ∀ i, hasM nd i = true → (i ∈ di.map (fun y => y.f1) ∨ i ∈ madeM (mv.take n)) → hasM (nd.filter (namB di (mv.take n))) i = true := by
    intro i hi q
    obtain ⟨x, hx, e⟩ := List.mem_map.1 ((hasM_mem nd i).1 hi)
    exact (hasM_mem _ i).2 (List.mem_map.2 ⟨x, List.mem_filter.2 ⟨hx, (hn x).2 (by rw [e]; exact q)⟩, e⟩)
  refine ⟨K.r, K.x, Nat.le_trans hf.length_le K.n, by rw [List.length_take]; have := K.m; omega, K.d, Int.le_trans (usedM_sub hf) K.u, fun x hx => K.nn x (hf.subset hx), K.np.sublist hf, fun x hx => (hn x).1 (List.mem_filter.1 hx).2, fun y hy => ⟨(K.dn y hy).1, hh _ (K.dn y hy).2 (.inl (List.mem_map.2 ⟨y, hy, rfl⟩))⟩, K.s, K.dd, by rw [h]; rfl, fun i hi => ⟨hh _ (K.mo i (hs.subset hi)).1 (.inr hi), (K.mo i (hs.subset hi)).2⟩, hs.nodup K.md⟩
theorem nm_fine {nd : List Nd} {di : List Lk} {mv : List Mv} (F : Fine nd di mv) (n : Nat) (p : Nd → Bool) : Fine (nd.filter p) di (mv.take n) := by
  have := List.length_filter_le p nd
  exact ⟨by have := F.n; omega, F.d, by rw [List.length_take]; have := F.m; omega, fun x hx => F.nz x (List.mem_filter.1 hx).1, F.dz, fun m hm => F.mz m (List.mem_of_mem_take hm)⟩
theorem nm_ar {B q t d : Nat} (h : 2099000 + (B + 1) * 3000 < q + t + 1 + d + 1 + 1) (h1 : t ≤ 1000) (h2 : d ≤ 1000) : 2099000 + B * 3000 < q := by
  rw [Nat.add_mul, Nat.one_mul] at h
  generalize B * 3000 = m at *
  omega
theorem nm_l0 (n ro nx : Int) (nd : List Nd) (di : List Lk) (mv : List Mv) (rx nxx : Int) (ndx : List Nd) (dix : List Lk) (mvx : List Mv) (h1 : nd.length ≤ 1000) (h2 : di.length ≤ 1000) (h3 : mv.length ≤ 1000) (N : Nat) (hN : N ≤ mv.length) (hn : n = (N : Int)) (hE : ∀ k, 2099000 < k → laws_FnNames.l0 k n (nd.filter (namB di (mv.take N))) (nd.length : Int) ro nx nd di mv rx nxx ndx dix mvx ro nx nd di (mv.take N) = some true) : ∀ (b a : List Nd) (k : Nat), a ++ b = nd → 2099000 + b.length * 3000 < k → laws_FnNames.l0 k n (a.filter (namB di (mv.take N))) (a.length : Int) ro nx nd di mv rx nxx ndx dix mvx ro nx nd di (mv.take N) = some true := by
  intro b
  induction b with
  | nil =>
    intro a k e hk
    rw [List.append_nil] at e
    subst e
    exact hE k (by simpa using hk)
  | cons x b ih =>
    intro a k e hk
    rw [List.length_cons] at hk
    have el := congrArg List.length e
    rw [List.length_append, List.length_cons] at el
    have hx : rd_T35 nd (a.length : Int) = x := by rw [← e]; exact rdA35 a x b
    have fl := List.length_filter_le (namB di (mv.take N)) a
    have tl : (mv.take N).length = N := by rw [List.length_take]; omega
    obtain ⟨q, rfl⟩ : ∃ m, k = ((m + (mv.take N).length + 1) + di.length + 1) + 1 := ⟨k - 1 - di.length - 1 - (mv.take N).length - 1, by omega⟩
    have nxt := ih (a ++ [x]) q (by rw [List.append_assoc]; exact e) (nm_ar hk (by omega) h2)
    rw [show (((a ++ [x]).length : Nat) : Int) = (a.length : Int) + 1 by simp, List.filter_append] at nxt
    obtain ⟨q1, hq1⟩ : ∃ q1, q1 = (q + (mv.take N).length + 1) + di.length + 1 := ⟨_, rfl⟩
    rw [← hq1]
    simp only [laws_FnNames.l0]
    rw [if_pos (by omega), Option.bind_some, if_pos (by simp only [List.length_nil]; omega), Option.bind_some, if_pos (by omega), Option.bind_some, if_pos (by simp only [List.length_append, List.length_nil, List.length_singleton]; omega), Option.bind_some, Option.bind_some, if_pos (by simp only [List.length_append, List.length_nil, List.length_singleton]; omega), hx, hq1]
    have s1 := nm_l1 n (a.length : Int) ro nx (a.filter (namB di (mv.take N))) nd di mv rx nxx ndx dix mvx (mv.take N) (([] ++ a.filter (namB di (mv.take N)) ++ [⟨x.f0, x.f1, x.f2⟩]) ++ []) x (by omega) (by omega) hx (by omega) di [] (q + (mv.take N).length + 1) false rfl
    have s2 := nm_l2 n (a.length : Int) ro nx (a.filter (namB di (mv.take N))) nd di mv rx nxx ndx dix mvx (mv.take N) (([] ++ a.filter (namB di (mv.take N)) ++ [⟨x.f0, x.f1, x.f2⟩]) ++ []) x (by omega) (by omega) hx (by omega) (mv.take N) [] (mv.drop N) q (false || di.any (fun y => y.f1 == x.f0)) (by rw [List.nil_append, List.take_append_drop]) (by rw [List.nil_append, tl]; exact hn)
    refine s1.trans (s2.trans ?_)
    rw [w64 (n := (a.length : Int) + 1) (by omega) (by omega)]
    have hb : (false || di.any (fun y => y.f1 == x.f0) || (mv.take N).any (fun m => decide (m.f0 = 1) && (m.f3 == x.f0))) = namB di (mv.take N) x := by unfold namB; rw [Bool.false_or]
    rw [hb]
    by_cases c : namB di (mv.take N) x = true
    · rw [if_pos c]
      rw [List.filter_cons_of_pos c, List.filter_nil] at nxt
      simpa using nxt
    · rw [if_neg c]
      rw [List.filter_cons_of_neg c, List.filter_nil, List.append_nil] at nxt
      exact nxt
theorem nm_l3 {rx nxx ro nx : Int} {ndx nd' : List Nd} {E di : List Lk} {mv' : List Mv} (h1 : E.length ≤ 1000) (g : ∀ z ∈ E, ∀ k, 2098000 < k → ∃ p q, impl_Load.f k rx nxx ndx E [] z.f0 = some (p, true) ∧ spec_Load.f k ro nx nd' di mv' z.f0 = some (q, true) ∧ p.size ≤ q.size ∧ q.extract 0 p.size = p) : ∀ (b a : List Lk) (k : Nat), a ++ b = E → 2098000 + b.length < k → laws_FnNames.l3 k (E.map fun y => y.f0) (E.map fun y => y.f0) (a.length : Int) rx nxx ndx E [] ro nx nd' di mv' = some true := by
  intro b
  induction b with
  | nil =>
    intro a k e hk
    rw [List.append_nil] at e
    obtain ⟨q, rfl⟩ : ∃ m, k = m + 1 := ⟨k - 1, by omega⟩
    simp only [laws_FnNames.l3]
    rw [if_neg (by rw [List.length_map, e]; omega)]
  | cons z b ih =>
    intro a k e hk
    rw [List.length_cons] at hk
    have el := congrArg List.length e
    rw [List.length_append, List.length_cons] at el
    obtain ⟨q, rfl⟩ : ∃ m, k = m + 1 := ⟨k - 1, by omega⟩
    have nxt := ih (a ++ [z]) q (by rw [List.append_assoc]; exact e) (by omega)
    rw [show (((a ++ [z]).length : Nat) : Int) = (a.length : Int) + 1 by simp] at nxt
    have hz : rdOf ByteArray.empty (E.map fun y => y.f0) (a.length : Int) = z.f0 := by
      rw [← e]; simp [rdOf]
    obtain ⟨p, r, f1, f2, f3, f4⟩ := g z (by rw [← e]; simp) q (by omega)
    simp only [laws_FnNames.l3]
    rw [if_pos (by rw [List.length_map]; omega), if_pos (by omega), hz, f1, Option.bind_some, if_pos (by rw [List.length_map]; omega), f2, Option.bind_some, if_pos trivial, if_pos rfl, if_pos rfl, begins_f f3 f4, Option.bind_some, if_pos rfl, w64 (n := (a.length : Int) + 1) (by omega) (by omega)]
    exact nxt
theorem iLoad_has {ro nx : Int} {nd : List Nd} {di D : List Lk} {mv : List Mv} {s : ByteArray} {x : Nd} (F : Fine nd di mv) (h : okM ro nx nd di mv = true) (hD : movM di mv = some D) (hx : Has D nd s x) (k : Nat) (hk : 2097600 < k) : impl_Load.f k ro nx nd di mv s = some (x.f1, true) ∧ spec_Load.f k ro nx nd di mv s = some (x.f1, true) := by
  obtain ⟨D', hm, hs, hsD, hl, h2, h0, h1⟩ := ok_mov h
  obtain rfl : D' = D := Option.some.inj (hm.symm.trans hD)
  obtain ⟨g0, g1, g2⟩ := has_find ((okd_iff _ _ _ _ _).1 h).np hx
  constructor
  · unfold impl_Load.f
    rw [iOk ro nx F k (by omega), Option.bind_some, if_pos h, iFind_f ro nx s hm hs hsD h1 h2 (by omega) F.mz k (by omega), Option.bind_some, if_neg (by omega), if_pos g0, if_pos g1, g2]
  · unfold spec_Load.f
    rw [sOk ro nx F k (by omega), Option.bind_some, if_pos h, sFind_f ro nx s hm h0 h1 h2 (by omega) F.mz k (by omega), Option.bind_some, if_neg (by omega), if_pos g0, if_pos g1, g2]
theorem keepM_cases (keep : Int) (m : Nat) : keepM keep (m : Int) = (if keep < 0 then 0 else if keep > (m : Int) then (m : Int) else keep) := by
  unfold keepM
  repeat' split
  all_goals omega
theorem names_j0 {ro nx : Int} {nd : List Nd} {di : List Lk} {mv : List Mv} (F : Fine nd di mv) (h : okM ro nx nd di mv = true) (cs : List Int) (n : Nat) (E : List Lk) (hE : movM di (mv.take n) = some E) (hn : n ≤ mv.length) (q : Nat) (hq : 3100000 < q) : laws_FnNames.j1 q (n : Int) ro nx nd di mv ro nx (delS E (crashL cs nd 0)) E [] = some true := by
  have K := (okd_iff _ _ _ _ _).1 h
  have Kx := ok_crash K n hE cs
  have hx := (okd_iff _ _ _ _ _).2 Kx
  have Fx := crash_fine F h n hE cs
  have Ky := nm_filter K n hE
  have hy := (okd_iff _ _ _ _ _).2 Ky
  have Fy := nm_fine F n (namB di (mv.take n))
  obtain ⟨t1, t2, t3, t4⟩ := take_names K n hE
  have hs : (madeM (mv.take n)).Sublist (madeM mv) := ((List.take_sublist n mv).filter _).map _
  have load : ∀ z ∈ E, ∀ k, 2098000 < k → ∃ p r, impl_Load.f k ro nx (delS E (crashL cs nd 0)) E [] z.f0 = some (p, true) ∧ spec_Load.f k ro nx (nd.filter (namB di (mv.take n))) di (mv.take n) z.f0 = some (r, true) ∧ p.size ≤ r.size ∧ r.extract 0 p.size = p := by
    intro z hz k hk
    have hid := idM_of t1 hz
    have hid' : hasM (nd.filter (namB di (mv.take n))) z.f1 = true := ((Ky.names hE).2.2.1 z hz).2
    obtain ⟨x, hx1, e⟩ := List.mem_map.1 ((hasM_mem _ _).1 hid')
    rw [← e] at hid
    obtain ⟨m, m0, m1, hh⟩ := crash_has K (List.mem_filter.1 hx1).1 hid cs
    refine ⟨x.f1.extract 0 m, x.f1, (iLoad_has Fx hx rfl hh k (by omega)).1, (iLoad_has Fy hy hE ⟨hx1, hid⟩ k (by omega)).2, ?_, ?_⟩
    · rw [ByteArray.size_extract]; omega
    · have : (x.f1.extract 0 m).size = m := by rw [ByteArray.size_extract]; omega
      rw [this]
  obtain ⟨q, rfl⟩ : ∃ m, q = m + 1 := ⟨q - 1, by omega⟩
  simp only [laws_FnNames.j1]
  rw [Option.bind_some, if_pos (by omega), if_pos (by omega), Option.bind_some, Int.toNat_natCast]
  have tl : (mv.take n).length = n := by rw [List.length_take]; omega
  have := K.n
  have := K.m
  have := K.d
  rw [if_pos (by rw [tl, List.length_nil]; omega), List.nil_append]
  refine nm_l0 (n : Int) ro nx nd di mv ro nx (delS E (crashL cs nd 0)) E [] (by omega) (by omega) (by omega) n hn rfl (fun k hk => ?_) nd [] q rfl (by omega)
  obtain ⟨k, rfl⟩ : ∃ m, k = m + 1 := ⟨k - 1, by omega⟩
  simp only [laws_FnNames.l0]
  rw [if_neg (by omega), iListOk ro nx Fx hx rfl k (by omega), Option.bind_some, sListOk ro nx Fy hy hE k (by omega), Option.bind_some, if_pos rfl]
  exact nm_l3 (by omega) load E [] k rfl (by omega)
theorem FnNames (l : List Int) (_ : l.length ≤ maxLen) (_ : ∀ z ∈ l, (Lit.int .u8 z).wf = true) : ∃ k, laws_FnNames.f k l = some true := by
  refine ⟨3200000, ?_⟩
  unfold laws_FnNames.f laws_big.f
  rw [Option.bind_some]
  by_cases hb : (l.length : Int) > 1048576
  · rw [if_pos (decide_eq_true hb)]
  rw [if_neg (by simpa using hb)]
  obtain ⟨ro, nx, nd, di, mv, keep, cs, e, F⟩ := drawCrash_ok l (by omega) 3200000 (by omega)
  rw [e, Option.bind_some]
  by_cases h : okM ro nx nd di mv = true
  · obtain ⟨n, E, hE, hn, f⟩ := iCrash_ok F h keep cs
    have K := (okd_iff _ _ _ _ _).1 h
    rw [keepM_cases] at hn
    show (impl_Crash.f 3200000 ro nx nd di mv keep cs).bind _ = _
    rw [f 3200000 (by omega), Option.bind_some]
    show (spec_DiskOk.f 3200000 ro nx nd di mv).bind _ = _
    rw [sOk ro nx F 3200000 (by omega), Option.bind_some, if_pos h]
    have G := fun q hq => names_j0 F h cs n E hE (by rw [hn]; repeat' split <;> omega) q hq
    have J : ∀ (x : Int) (q : Nat), 3100001 < q → (if x > (mv.length : Int) then (mv.length : Int) else x) = (n : Int) → laws_FnNames.j0 q x ro nx nd di mv ro nx (delS E (crashL cs nd 0)) E [] = some true := by
      intro x q hq hx
      obtain ⟨q, rfl⟩ : ∃ m, q = m + 1 := ⟨q - 1, by omega⟩
      simp only [laws_FnNames.j0]
      by_cases c : x > (mv.length : Int)
      · rw [if_pos c] at hx ⊢; rw [hx]; exact G q (by omega)
      · rw [if_neg c] at hx ⊢; rw [hx]; exact G q (by omega)
    show (if keep < 0 then laws_FnNames.j0 3200000 0 ro nx nd di mv ro nx (delS E (crashL cs nd 0)) E [] else laws_FnNames.j0 3200000 keep ro nx nd di mv ro nx (delS E (crashL cs nd 0)) E []) = some true
    by_cases c : keep < 0
    · rw [if_pos c] at hn ⊢
      exact J 0 _ (by omega) (by rw [if_neg (by omega)]; omega)
    · rw [if_neg c] at hn ⊢
      refine J keep _ (by omega) ?_
      rw [hn]
      split <;> omega
  · show (impl_Crash.f 3200000 ro nx nd di mv keep cs).bind _ = _
    rw [iCrash_bad F h keep cs 3200000 (by omega), Option.bind_some]
    show (spec_DiskOk.f 3200000 ro nx nd di mv).bind _ = _
    rw [sOk ro nx F 3200000 (by omega), Option.bind_some, if_neg h]
    show (impl_DiskOk.f 3200000 0 0 [] [] []).bind _ = _
    rw [iOk 0 0 ⟨by simp, by simp, by simp, by simp, by simp, by simp⟩ 3200000 (by omega), Option.bind_some]
    have : okM 0 0 [] [] [] = false := by
      rw [Bool.eq_false_iff]; intro c
      have := ((okd_iff _ _ _ _ _).1 c).x; omega
    rw [this]; rfl

end Go.Proofs.Ytndbmllnkjngnaa.Pure
