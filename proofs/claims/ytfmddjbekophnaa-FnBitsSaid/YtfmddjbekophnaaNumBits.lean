/- Plain mathematics of the texts of numbers that rise, and of values. No condition. -/
import Derived.Test.YtfmddjbekophnaaNum
namespace Go.Proofs.Ytfmddjbekophnaa.Base
open Go.RowKit Go.Proofs.YtfmddjbekophnaaW.PrintWords Go.Proofs.YtfmddjbekophnaaW.PrintLast Go.Proofs.YtfmddjbekophnaaW.PrintMore
set_option linter.unusedVariables false
set_option linter.unusedSimpArgs false

def varM (n : Int) : List Int := if 0 ≤ n ∧ n ≤ 562949953421311 then varN n.toNat else []
theorem varM_byt (n : Int) : Byt (varM n) := by
  unfold varM; split
  · exact varN_byt _
  · exact byt_nil
theorem varM_length (n : Int) : (varM n).length ≤ 7 := by
  unfold varM; split
  · exact varN_length 6 _ (by omega)
  · simp
def zigM (n : Int) : Int := if -140737488355328 ≤ n ∧ n ≤ 140737488355328 then (if n < 0 then -2 * n - 1 else 2 * n) else -1

/-- values, each told against the last -/
def valM : Int → List Int → List Int
  | _, [] => []
  | last, v :: r => varM (zigM (v - last)) ++ valM v r
def inV (l : List Int) : Bool := l.all fun v => decide (-1099511627776 ≤ v ∧ v ≤ 1099511627776)
def showValM (l : List Int) : List Int := if 1 ≤ (l.length : Int) ∧ (l.length : Int) ≤ 60 ∧ inV l = true then valM 0 l else []
theorem valM_byt : ∀ (l : List Int) (last : Int), Byt (valM last l)
  | [], _ => byt_nil
  | v :: r, _ => byt_append.2 ⟨varM_byt _, valM_byt r v⟩

/-- numbers that rise, told by steps of steps -/
def tim2 : Int → Int → List Int → List Int
  | _, _, [] => []
  | p, q, t :: r => varM (zigM (t - q - (q - p))) ++ tim2 q t r
def tim1 : Int → List Int → List Int
  | _, [] => []
  | p, t :: r => varM (t - p) ++ tim2 p t r
def timM : List Int → List Int
  | [] => []
  | t :: r => varM t ++ tim1 t r
def risM : Int → List Int → Bool
  | _, [] => true
  | p, t :: r => decide (p < t ∧ 0 ≤ t ∧ t ≤ 1099511627776) && risM t r
def riseM : List Int → Bool
  | [] => true
  | t :: r => decide (0 ≤ t ∧ t ≤ 1099511627776) && risM t r
def showTimM (l : List Int) : List Int := if 1 ≤ (l.length : Int) ∧ (l.length : Int) ≤ 60 ∧ riseM l = true then timM l else []
theorem tim2_byt : ∀ (l : List Int) (p q : Int), Byt (tim2 p q l)
  | [], _, _ => byt_nil
  | t :: r, _, _ => byt_append.2 ⟨varM_byt _, tim2_byt r _ _⟩
theorem tim1_byt : ∀ (l : List Int) (p : Int), Byt (tim1 p l)
  | [], _ => byt_nil
  | t :: r, _ => byt_append.2 ⟨varM_byt _, tim2_byt r _ _⟩
theorem timM_byt : ∀ (l : List Int), Byt (timM l)
  | [] => byt_nil
  | t :: r => byt_append.2 ⟨varM_byt _, tim1_byt r _⟩
end Go.Proofs.Ytfmddjbekophnaa.Base
