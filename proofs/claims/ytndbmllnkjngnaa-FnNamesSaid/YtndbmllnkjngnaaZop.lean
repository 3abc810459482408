/- More short names for steps that printed proofs repeat; each is a plain theorem. -/
import Derived.Test.YtndbmllnkjngnaaZap
set_option linter.unusedVariables false
namespace Go.Proofs.Ytndbmllnkjngnaa.Zip
open Go.RowKit Go.Proofs.YtndbmllnkjngnaaW.PrintWords Go.Proofs.YtndbmllnkjngnaaW.PrintLast Go.Proofs.YtndbmllnkjngnaaW.PrintMore
theorem bT {α : Type} [BEq α] [LawfulBEq α] {a b : α} (h : a = b) : (a == b) = true := beq_iff_eq.mpr h
theorem bQ {α : Type} [BEq α] [LawfulBEq α] {a b : α} (h : a ≠ b) : (a != b) = true := bne_iff_ne.mpr h
theorem dB {w : World} {g : Nat} {o : Obj} (h : Aside0 (w.heap[g]? = some o)) : Aside0 (w.drew.heap[g]? = some o) := ⟨blk_drew h.out⟩
theorem dR {α : Type} {d : Kd α} {e base : Nat} {ok : Nat → Prop} {v : Value} {xs : List α} {w : World} (h : Aside0 (d.R e w base ok v xs)) : Aside0 (d.R e w.drew base ok v xs) := ⟨Kd.R_drew h.out⟩
theorem dW {n : Nat} {w W : World} (h : Aside0 (Below n w W)) : Aside0 (Below n w W.drew) := ⟨below_drew1 h.out⟩
theorem bw {w W : World} {g : Nat} {o : Obj} (h : Aside0 (w.heap[g]? = some o)) (hu : w.heap[g]? = some o → W.heap[g]? = some o := by intro h_; (with_reducible repeat (first | refine blk_drewN ?_ _ | refine blk_drew ?_ | refine blk_alloc ?_ _)); exact h_) : W.heap[g]? = some o := hu h.out
end Go.Proofs.Ytndbmllnkjngnaa.Zip
