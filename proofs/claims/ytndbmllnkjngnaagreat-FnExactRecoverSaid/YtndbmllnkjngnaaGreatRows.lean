/-
  No cell of these rows narrows 'for every input' (looked for: loops, veiled, ifaces, maps, wideKeys, modest, calm, conditions, laid).
  DERIVED. THE GIVEN ROWS OF THIS SEAT. 5 by the template 'for every input the law returns true; each argument reads behind the call as it read before'; 0 by the template 'total and deterministic' (their statements: YtndbmllnkjngnaaGreatTotals.lean).
  GIVEN WITH THE SEED: the statements are not yours to turn. If you find one false, say at which input.
  Laid BY PROGRAM, IN A SANDBOX (cutbox-rows.mjs): the forced cells as the released guide's own fill.sh prints them over the translation 6effd93e1df30c87… (all of the seat's roots in one cut). By AI agents, Wed Nov 11 2026. No macro, syntax, notation, axiom, sorry.
-/
import Derived.Test.YtndbmllnkjngnaaGreatChecked
import GoSem.Claim
import GoSem.ClaimJoined
import GoSem.ClaimMapViews
import Derived.JoinedTies
import Derived.KernelRfl
namespace Go.Proofs.YtndbmllnkjngnaaGreat
/- THE CELL 'sum', in the pinned program and in every row, IS THE sha256 OF THE DUMP (.gsa) THAT YtndbmllnkjngnaaGreatProg.lean LOADS. Nothing in Lean hashes anything: it is a label: what it is worth is what the hold of that sum in a sandbox is worth. -/
noncomputable def Tryz.pinned : Pinned := { name := "ytndbmllnkjngnaagreat", sum := "6effd93e1df30c87dbfb98d8d2e58a1265acad0f2f55d3b3d7421c2567e736f6", checked := Tryz.checked }
namespace Rows
def none {H : Type} : Left H := { results := [], args := [] }

/-- 'laws.FnExactDoStep': WHATEVER THE INPUT: true; the input reads as it did. -/
def fnExactDoStepSpec : ChangeSpec := { name := "fnExactDoStep", fn := fun _ => fun
  | [d1, d2] => { results := [.lit (.bool true)], args := [d1, d2] }
  | _ => none }
def fnExactDoStepRow : OpenClaim := { program := "ytndbmllnkjngnaagreat", sum := "6effd93e1df30c87dbfb98d8d2e58a1265acad0f2f55d3b3d7421c2567e736f6", func := "loop.example/g00360/laws.FnExactDoStep", spec := "fnExactDoStep", inPlace := ["internal/bytealg.abigen_runtime_cmpstring", "slices.overlaps[loop.example/g00360/impl.Link]"], unfollowed := true, recurses := true, apart := false }
def FnExactDoStepSaid : Prop := fnExactDoStepRow.holds Tryz.pinned (OpenSpec.ofChange fnExactDoStepSpec)

/-- ITS FALSE NEIGHBOUR: 'it returns false'. Refute it at one input. -/
def fnExactDoStepWrong : ChangeSpec := { name := "fnExactDoStep", fn := fun _ => fun
  | [d1, d2] => { results := [.lit (.bool false)], args := [d1, d2] }
  | _ => none }
def FnExactDoStepWrongFalsely : Prop := fnExactDoStepRow.holds Tryz.pinned (OpenSpec.ofChange fnExactDoStepWrong)

/-- 'laws.FnExactPlanLog': WHATEVER THE INPUT: true; the input reads as it did. -/
def fnExactPlanLogSpec : ChangeSpec := { name := "fnExactPlanLog", fn := fun _ => fun
  | [d1, d2] => { results := [.lit (.bool true)], args := [d1, d2] }
  | _ => none }
def fnExactPlanLogRow : OpenClaim := { program := "ytndbmllnkjngnaagreat", sum := "6effd93e1df30c87dbfb98d8d2e58a1265acad0f2f55d3b3d7421c2567e736f6", func := "loop.example/g00360/laws.FnExactPlanLog", spec := "fnExactPlanLog", inPlace := ["internal/bytealg.abigen_runtime_cmpstring", "slices.overlaps[loop.example/g00360/impl.Link]"], unfollowed := true, recurses := true, apart := false }
def FnExactPlanLogSaid : Prop := fnExactPlanLogRow.holds Tryz.pinned (OpenSpec.ofChange fnExactPlanLogSpec)

/-- ITS FALSE NEIGHBOUR: 'it returns false'. Refute it at one input. -/
def fnExactPlanLogWrong : ChangeSpec := { name := "fnExactPlanLog", fn := fun _ => fun
  | [d1, d2] => { results := [.lit (.bool false)], args := [d1, d2] }
  | _ => none }
def FnExactPlanLogWrongFalsely : Prop := fnExactPlanLogRow.holds Tryz.pinned (OpenSpec.ofChange fnExactPlanLogWrong)

/-- 'laws.FnExactDoSteps': WHATEVER THE INPUT: true; the input reads as it did. -/
def fnExactDoStepsSpec : ChangeSpec := { name := "fnExactDoSteps", fn := fun _ => fun
  | [d1, d2, d3] => { results := [.lit (.bool true)], args := [d1, d2, d3] }
  | _ => none }
def fnExactDoStepsRow : OpenClaim := { program := "ytndbmllnkjngnaagreat", sum := "6effd93e1df30c87dbfb98d8d2e58a1265acad0f2f55d3b3d7421c2567e736f6", func := "loop.example/g00360/laws.FnExactDoSteps", spec := "fnExactDoSteps", inPlace := ["internal/bytealg.abigen_runtime_cmpstring", "slices.overlaps[loop.example/g00360/impl.Link]"], unfollowed := true, recurses := true, apart := false }
def FnExactDoStepsSaid : Prop := fnExactDoStepsRow.holds Tryz.pinned (OpenSpec.ofChange fnExactDoStepsSpec)

/-- ITS FALSE NEIGHBOUR: 'it returns false'. Refute it at one input. -/
def fnExactDoStepsWrong : ChangeSpec := { name := "fnExactDoSteps", fn := fun _ => fun
  | [d1, d2, d3] => { results := [.lit (.bool false)], args := [d1, d2, d3] }
  | _ => none }
def FnExactDoStepsWrongFalsely : Prop := fnExactDoStepsRow.holds Tryz.pinned (OpenSpec.ofChange fnExactDoStepsWrong)

/-- 'laws.FnExactPlanSnap': WHATEVER THE INPUT: true; the input reads as it did. -/
def fnExactPlanSnapSpec : ChangeSpec := { name := "fnExactPlanSnap", fn := fun _ => fun
  | [d1, d2, d3] => { results := [.lit (.bool true)], args := [d1, d2, d3] }
  | _ => none }
def fnExactPlanSnapRow : OpenClaim := { program := "ytndbmllnkjngnaagreat", sum := "6effd93e1df30c87dbfb98d8d2e58a1265acad0f2f55d3b3d7421c2567e736f6", func := "loop.example/g00360/laws.FnExactPlanSnap", spec := "fnExactPlanSnap", inPlace := ["internal/bytealg.abigen_runtime_cmpstring", "slices.overlaps[loop.example/g00360/impl.Link]"], unfollowed := true, recurses := true, apart := false }
def FnExactPlanSnapSaid : Prop := fnExactPlanSnapRow.holds Tryz.pinned (OpenSpec.ofChange fnExactPlanSnapSpec)

/-- ITS FALSE NEIGHBOUR: 'it returns false'. Refute it at one input. -/
def fnExactPlanSnapWrong : ChangeSpec := { name := "fnExactPlanSnap", fn := fun _ => fun
  | [d1, d2, d3] => { results := [.lit (.bool false)], args := [d1, d2, d3] }
  | _ => none }
def FnExactPlanSnapWrongFalsely : Prop := fnExactPlanSnapRow.holds Tryz.pinned (OpenSpec.ofChange fnExactPlanSnapWrong)

/-- 'laws.FnExactRecover': WHATEVER THE INPUT: true; the input reads as it did. -/
def fnExactRecoverSpec : ChangeSpec := { name := "fnExactRecover", fn := fun _ => fun
  | [d] => { results := [.lit (.bool true)], args := [d] }
  | _ => none }
def fnExactRecoverRow : OpenClaim := { program := "ytndbmllnkjngnaagreat", sum := "6effd93e1df30c87dbfb98d8d2e58a1265acad0f2f55d3b3d7421c2567e736f6", func := "loop.example/g00360/laws.FnExactRecover", spec := "fnExactRecover", inPlace := ["internal/bytealg.abigen_runtime_cmpstring", "slices.overlaps[loop.example/g00360/impl.Link]"], unfollowed := true, recurses := true, apart := false }
def FnExactRecoverSaid : Prop := fnExactRecoverRow.holds Tryz.pinned (OpenSpec.ofChange fnExactRecoverSpec)

/-- ITS FALSE NEIGHBOUR: 'it returns false'. Refute it at one input. -/
def fnExactRecoverWrong : ChangeSpec := { name := "fnExactRecover", fn := fun _ => fun
  | [d] => { results := [.lit (.bool false)], args := [d] }
  | _ => none }
def FnExactRecoverWrongFalsely : Prop := fnExactRecoverRow.holds Tryz.pinned (OpenSpec.ofChange fnExactRecoverWrong)

/- THE SECOND FORM. 'bulk': how many values and letters a reading holds, each counted each time it is reached (what is shared counts as often as it is met; a slice's spare places count too). A statement '..UptoSaid' is the law's where the arguments, and the package variables that the reading takes, are together of bulk at most 1048576: NARROWER than '..Said'. Prove '..Said' where nothing that the law and all that it calls make is longer than what came in: it says more and counts as full. Else prove '..UptoSaid'. A law counts once. -/
mutual
def uptoBulk {H : Type} : DataW H → Nat
  | .lit (.string bytes) => bytes.length + 1
  | .lit _ => 1
  | .nil => 1
  | .ptr d => uptoBulk d + 1
  | .slice elems spare => uptoBulkAll elems + uptoBulkAll spare + 1
  | .agg parts => uptoBulkAll parts + 1
  | .iface _ d => uptoBulk d + 1
  | .map entries => uptoBulkEntries entries + 1
  | .held _ => 1
def uptoBulkAll {H : Type} : List (DataW H) → Nat
  | [] => 0
  | d :: r => uptoBulk d + uptoBulkAll r
def uptoBulkEntries {H : Type} : List (Lit × DataW H) → Nat
  | [] => 0
  | x :: r => uptoBulkEntry x + uptoBulkEntries r
def uptoBulkEntry {H : Type} : Lit × DataW H → Nat
  | (.string bytes, d) => bytes.length + uptoBulk d + 1
  | (_, d) => uptoBulk d + 1
 end
def uptoSmall : (H : Type) → List (DataW H) → Bool := fun _ ds => decide (uptoBulkAll ds ≤ 1048576)
def OpenSpec.upto (s : _root_.Go.ChangeSpec) : _root_.Go.OpenSpec := { _root_.Go.OpenSpec.ofChange s with cond := some uptoSmall }

/-- 'laws.FnExactDoStep', WHERE WHAT IT READS IS OF BULK AT MOST 1048576: true; the input reads as it did. -/
def fnExactDoStepUptoRow : OpenClaim := { program := "ytndbmllnkjngnaagreat", sum := "6effd93e1df30c87dbfb98d8d2e58a1265acad0f2f55d3b3d7421c2567e736f6", func := "loop.example/g00360/laws.FnExactDoStep", spec := "fnExactDoStep", inPlace := ["internal/bytealg.abigen_runtime_cmpstring", "slices.overlaps[loop.example/g00360/impl.Link]"], unfollowed := true, recurses := true, apart := false, narrowed := true }
def FnExactDoStepUptoSaid : Prop := fnExactDoStepUptoRow.holds Tryz.pinned (OpenSpec.upto fnExactDoStepSpec)

/-- 'laws.FnExactPlanLog', WHERE WHAT IT READS IS OF BULK AT MOST 1048576: true; the input reads as it did. -/
def fnExactPlanLogUptoRow : OpenClaim := { program := "ytndbmllnkjngnaagreat", sum := "6effd93e1df30c87dbfb98d8d2e58a1265acad0f2f55d3b3d7421c2567e736f6", func := "loop.example/g00360/laws.FnExactPlanLog", spec := "fnExactPlanLog", inPlace := ["internal/bytealg.abigen_runtime_cmpstring", "slices.overlaps[loop.example/g00360/impl.Link]"], unfollowed := true, recurses := true, apart := false, narrowed := true }
def FnExactPlanLogUptoSaid : Prop := fnExactPlanLogUptoRow.holds Tryz.pinned (OpenSpec.upto fnExactPlanLogSpec)

/-- 'laws.FnExactDoSteps', WHERE WHAT IT READS IS OF BULK AT MOST 1048576: true; the input reads as it did. -/
def fnExactDoStepsUptoRow : OpenClaim := { program := "ytndbmllnkjngnaagreat", sum := "6effd93e1df30c87dbfb98d8d2e58a1265acad0f2f55d3b3d7421c2567e736f6", func := "loop.example/g00360/laws.FnExactDoSteps", spec := "fnExactDoSteps", inPlace := ["internal/bytealg.abigen_runtime_cmpstring", "slices.overlaps[loop.example/g00360/impl.Link]"], unfollowed := true, recurses := true, apart := false, narrowed := true }
def FnExactDoStepsUptoSaid : Prop := fnExactDoStepsUptoRow.holds Tryz.pinned (OpenSpec.upto fnExactDoStepsSpec)

/-- 'laws.FnExactPlanSnap', WHERE WHAT IT READS IS OF BULK AT MOST 1048576: true; the input reads as it did. -/
def fnExactPlanSnapUptoRow : OpenClaim := { program := "ytndbmllnkjngnaagreat", sum := "6effd93e1df30c87dbfb98d8d2e58a1265acad0f2f55d3b3d7421c2567e736f6", func := "loop.example/g00360/laws.FnExactPlanSnap", spec := "fnExactPlanSnap", inPlace := ["internal/bytealg.abigen_runtime_cmpstring", "slices.overlaps[loop.example/g00360/impl.Link]"], unfollowed := true, recurses := true, apart := false, narrowed := true }
def FnExactPlanSnapUptoSaid : Prop := fnExactPlanSnapUptoRow.holds Tryz.pinned (OpenSpec.upto fnExactPlanSnapSpec)

/-- 'laws.FnExactRecover', WHERE WHAT IT READS IS OF BULK AT MOST 1048576: true; the input reads as it did. -/
def fnExactRecoverUptoRow : OpenClaim := { program := "ytndbmllnkjngnaagreat", sum := "6effd93e1df30c87dbfb98d8d2e58a1265acad0f2f55d3b3d7421c2567e736f6", func := "loop.example/g00360/laws.FnExactRecover", spec := "fnExactRecover", inPlace := ["internal/bytealg.abigen_runtime_cmpstring", "slices.overlaps[loop.example/g00360/impl.Link]"], unfollowed := true, recurses := true, apart := false, narrowed := true }
def FnExactRecoverUptoSaid : Prop := fnExactRecoverUptoRow.holds Tryz.pinned (OpenSpec.upto fnExactRecoverSpec)

end Rows
end Go.Proofs.YtndbmllnkjngnaaGreat
