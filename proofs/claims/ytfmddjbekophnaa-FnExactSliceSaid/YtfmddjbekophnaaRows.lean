/-
  No cell of these rows narrows 'for every input' (looked for: loops, veiled, ifaces, maps, wideKeys, modest, calm, conditions, laid).
  DERIVED. THE GIVEN ROWS OF THIS SEAT. 12 by the template 'for every input the law returns true; each argument reads behind the call as it read before'; 0 by the template 'total and deterministic' (their statements: YtfmddjbekophnaaTotals.lean).
  GIVEN WITH THE SEED: the statements are not yours to turn. If you find one false, say at which input.
  Laid BY PROGRAM, IN A SANDBOX (cutbox-rows.mjs): the forced cells as the released guide's own fill.sh prints them over the translation 251feb7ea461f540… (all of the seat's roots in one cut). By AI agents, Wed Nov 11 2026. No macro, syntax, notation, axiom, sorry.
-/
import Derived.Test.YtfmddjbekophnaaChecked
import GoSem.Claim
import GoSem.ClaimJoined
import GoSem.ClaimMapViews
import Derived.JoinedTies
import Derived.KernelRfl
namespace Go.Proofs.Ytfmddjbekophnaa
/- THE CELL 'sum', in the pinned program and in every row, IS THE sha256 OF THE DUMP (.gsa) THAT YtfmddjbekophnaaProg.lean LOADS. Nothing in Lean hashes anything: it is a label: what it is worth is what the hold of that sum in a sandbox is worth. -/
noncomputable def Try.pinned : Pinned := { name := "ytfmddjbekophnaa", sum := "251feb7ea461f540a861abf748fecac042f7d45ce596994c15b1e5e9dd090729", checked := Try.checked }
namespace Rows
def none {H : Type} : Left H := { results := [], args := [] }

/-- 'laws.FnExactPointsOk': WHATEVER THE INPUT: true; the input reads as it did. -/
def fnExactPointsOkSpec : ChangeSpec := { name := "fnExactPointsOk", fn := fun _ => fun
  | [d] => { results := [.lit (.bool true)], args := [d] }
  | _ => none }
def fnExactPointsOkRow : OpenClaim := { program := "ytfmddjbekophnaa", sum := "251feb7ea461f540a861abf748fecac042f7d45ce596994c15b1e5e9dd090729", func := "loop.example/g00360/laws.FnExactPointsOk", spec := "fnExactPointsOk", apart := false }
def FnExactPointsOkSaid : Prop := fnExactPointsOkRow.holds Try.pinned (OpenSpec.ofChange fnExactPointsOkSpec)

/-- ITS FALSE NEIGHBOUR: 'it returns false'. Refute it at one input. -/
def fnExactPointsOkWrong : ChangeSpec := { name := "fnExactPointsOk", fn := fun _ => fun
  | [d] => { results := [.lit (.bool false)], args := [d] }
  | _ => none }
def FnExactPointsOkWrongFalsely : Prop := fnExactPointsOkRow.holds Try.pinned (OpenSpec.ofChange fnExactPointsOkWrong)

/-- 'laws.FnExactShowValues': WHATEVER THE INPUT: true; the input reads as it did. -/
def fnExactShowValuesSpec : ChangeSpec := { name := "fnExactShowValues", fn := fun _ => fun
  | [d] => { results := [.lit (.bool true)], args := [d] }
  | _ => none }
def fnExactShowValuesRow : OpenClaim := { program := "ytfmddjbekophnaa", sum := "251feb7ea461f540a861abf748fecac042f7d45ce596994c15b1e5e9dd090729", func := "loop.example/g00360/laws.FnExactShowValues", spec := "fnExactShowValues", apart := false }
def FnExactShowValuesSaid : Prop := fnExactShowValuesRow.holds Try.pinned (OpenSpec.ofChange fnExactShowValuesSpec)

/-- ITS FALSE NEIGHBOUR: 'it returns false'. Refute it at one input. -/
def fnExactShowValuesWrong : ChangeSpec := { name := "fnExactShowValues", fn := fun _ => fun
  | [d] => { results := [.lit (.bool false)], args := [d] }
  | _ => none }
def FnExactShowValuesWrongFalsely : Prop := fnExactShowValuesRow.holds Try.pinned (OpenSpec.ofChange fnExactShowValuesWrong)

/-- 'laws.FnExactShowTimes': WHATEVER THE INPUT: true; the input reads as it did. -/
def fnExactShowTimesSpec : ChangeSpec := { name := "fnExactShowTimes", fn := fun _ => fun
  | [d] => { results := [.lit (.bool true)], args := [d] }
  | _ => none }
def fnExactShowTimesRow : OpenClaim := { program := "ytfmddjbekophnaa", sum := "251feb7ea461f540a861abf748fecac042f7d45ce596994c15b1e5e9dd090729", func := "loop.example/g00360/laws.FnExactShowTimes", spec := "fnExactShowTimes", apart := false }
def FnExactShowTimesSaid : Prop := fnExactShowTimesRow.holds Try.pinned (OpenSpec.ofChange fnExactShowTimesSpec)

/-- ITS FALSE NEIGHBOUR: 'it returns false'. Refute it at one input. -/
def fnExactShowTimesWrong : ChangeSpec := { name := "fnExactShowTimes", fn := fun _ => fun
  | [d] => { results := [.lit (.bool false)], args := [d] }
  | _ => none }
def FnExactShowTimesWrongFalsely : Prop := fnExactShowTimesRow.holds Try.pinned (OpenSpec.ofChange fnExactShowTimesWrong)

/-- 'laws.FnExactSlice': WHATEVER THE INPUT: true; the input reads as it did. -/
def fnExactSliceSpec : ChangeSpec := { name := "fnExactSlice", fn := fun _ => fun
  | [d1, d2, d3] => { results := [.lit (.bool true)], args := [d1, d2, d3] }
  | _ => none }
def fnExactSliceRow : OpenClaim := { program := "ytfmddjbekophnaa", sum := "251feb7ea461f540a861abf748fecac042f7d45ce596994c15b1e5e9dd090729", func := "loop.example/g00360/laws.FnExactSlice", spec := "fnExactSlice", unfollowed := true, recurses := true, apart := false }
def FnExactSliceSaid : Prop := fnExactSliceRow.holds Try.pinned (OpenSpec.ofChange fnExactSliceSpec)

/-- ITS FALSE NEIGHBOUR: 'it returns false'. Refute it at one input. -/
def fnExactSliceWrong : ChangeSpec := { name := "fnExactSlice", fn := fun _ => fun
  | [d1, d2, d3] => { results := [.lit (.bool false)], args := [d1, d2, d3] }
  | _ => none }
def FnExactSliceWrongFalsely : Prop := fnExactSliceRow.holds Try.pinned (OpenSpec.ofChange fnExactSliceWrong)

/-- 'laws.FnNumbers': WHATEVER THE INPUT: true; the input reads as it did. -/
def fnNumbersSpec : ChangeSpec := { name := "fnNumbers", fn := fun _ => fun
  | [d] => { results := [.lit (.bool true)], args := [d] }
  | _ => none }
def fnNumbersRow : OpenClaim := { program := "ytfmddjbekophnaa", sum := "251feb7ea461f540a861abf748fecac042f7d45ce596994c15b1e5e9dd090729", func := "loop.example/g00360/laws.FnNumbers", spec := "fnNumbers", recurses := true, apart := false }
def FnNumbersSaid : Prop := fnNumbersRow.holds Try.pinned (OpenSpec.ofChange fnNumbersSpec)

/-- ITS FALSE NEIGHBOUR: 'it returns false'. Refute it at one input. -/
def fnNumbersWrong : ChangeSpec := { name := "fnNumbers", fn := fun _ => fun
  | [d] => { results := [.lit (.bool false)], args := [d] }
  | _ => none }
def FnNumbersWrongFalsely : Prop := fnNumbersRow.holds Try.pinned (OpenSpec.ofChange fnNumbersWrong)

/-- 'laws.FnExactReadValues': WHATEVER THE INPUT: true; the input reads as it did. -/
def fnExactReadValuesSpec : ChangeSpec := { name := "fnExactReadValues", fn := fun _ => fun
  | [d1, d2] => { results := [.lit (.bool true)], args := [d1, d2] }
  | _ => none }
def fnExactReadValuesRow : OpenClaim := { program := "ytfmddjbekophnaa", sum := "251feb7ea461f540a861abf748fecac042f7d45ce596994c15b1e5e9dd090729", func := "loop.example/g00360/laws.FnExactReadValues", spec := "fnExactReadValues", apart := false }
def FnExactReadValuesSaid : Prop := fnExactReadValuesRow.holds Try.pinned (OpenSpec.ofChange fnExactReadValuesSpec)

/-- ITS FALSE NEIGHBOUR: 'it returns false'. Refute it at one input. -/
def fnExactReadValuesWrong : ChangeSpec := { name := "fnExactReadValues", fn := fun _ => fun
  | [d1, d2] => { results := [.lit (.bool false)], args := [d1, d2] }
  | _ => none }
def FnExactReadValuesWrongFalsely : Prop := fnExactReadValuesRow.holds Try.pinned (OpenSpec.ofChange fnExactReadValuesWrong)

/-- 'laws.FnExactReadTimes': WHATEVER THE INPUT: true; the input reads as it did. -/
def fnExactReadTimesSpec : ChangeSpec := { name := "fnExactReadTimes", fn := fun _ => fun
  | [d1, d2] => { results := [.lit (.bool true)], args := [d1, d2] }
  | _ => none }
def fnExactReadTimesRow : OpenClaim := { program := "ytfmddjbekophnaa", sum := "251feb7ea461f540a861abf748fecac042f7d45ce596994c15b1e5e9dd090729", func := "loop.example/g00360/laws.FnExactReadTimes", spec := "fnExactReadTimes", apart := false }
def FnExactReadTimesSaid : Prop := fnExactReadTimesRow.holds Try.pinned (OpenSpec.ofChange fnExactReadTimesSpec)

/-- ITS FALSE NEIGHBOUR: 'it returns false'. Refute it at one input. -/
def fnExactReadTimesWrong : ChangeSpec := { name := "fnExactReadTimes", fn := fun _ => fun
  | [d1, d2] => { results := [.lit (.bool false)], args := [d1, d2] }
  | _ => none }
def FnExactReadTimesWrongFalsely : Prop := fnExactReadTimesRow.holds Try.pinned (OpenSpec.ofChange fnExactReadTimesWrong)

/-- 'laws.FnBits': WHATEVER THE INPUT: true; the input reads as it did. -/
def fnBitsSpec : ChangeSpec := { name := "fnBits", fn := fun _ => fun
  | [d] => { results := [.lit (.bool true)], args := [d] }
  | _ => none }
def fnBitsRow : OpenClaim := { program := "ytfmddjbekophnaa", sum := "251feb7ea461f540a861abf748fecac042f7d45ce596994c15b1e5e9dd090729", func := "loop.example/g00360/laws.FnBits", spec := "fnBits", apart := false }
def FnBitsSaid : Prop := fnBitsRow.holds Try.pinned (OpenSpec.ofChange fnBitsSpec)

/-- ITS FALSE NEIGHBOUR: 'it returns false'. Refute it at one input. -/
def fnBitsWrong : ChangeSpec := { name := "fnBits", fn := fun _ => fun
  | [d] => { results := [.lit (.bool false)], args := [d] }
  | _ => none }
def FnBitsWrongFalsely : Prop := fnBitsRow.holds Try.pinned (OpenSpec.ofChange fnBitsWrong)

/-- 'laws.FnExactWalText': WHATEVER THE INPUT: true; the input reads as it did. -/
def fnExactWalTextSpec : ChangeSpec := { name := "fnExactWalText", fn := fun _ => fun
  | [d] => { results := [.lit (.bool true)], args := [d] }
  | _ => none }
def fnExactWalTextRow : OpenClaim := { program := "ytfmddjbekophnaa", sum := "251feb7ea461f540a861abf748fecac042f7d45ce596994c15b1e5e9dd090729", func := "loop.example/g00360/laws.FnExactWalText", spec := "fnExactWalText", apart := false }
def FnExactWalTextSaid : Prop := fnExactWalTextRow.holds Try.pinned (OpenSpec.ofChange fnExactWalTextSpec)

/-- ITS FALSE NEIGHBOUR: 'it returns false'. Refute it at one input. -/
def fnExactWalTextWrong : ChangeSpec := { name := "fnExactWalText", fn := fun _ => fun
  | [d] => { results := [.lit (.bool false)], args := [d] }
  | _ => none }
def FnExactWalTextWrongFalsely : Prop := fnExactWalTextRow.holds Try.pinned (OpenSpec.ofChange fnExactWalTextWrong)

/-- 'laws.FnExactChanges': WHATEVER THE INPUT: true; the input reads as it did. -/
def fnExactChangesSpec : ChangeSpec := { name := "fnExactChanges", fn := fun _ => fun
  | [d1, d2] => { results := [.lit (.bool true)], args := [d1, d2] }
  | _ => none }
def fnExactChangesRow : OpenClaim := { program := "ytfmddjbekophnaa", sum := "251feb7ea461f540a861abf748fecac042f7d45ce596994c15b1e5e9dd090729", func := "loop.example/g00360/laws.FnExactChanges", spec := "fnExactChanges", apart := false }
def FnExactChangesSaid : Prop := fnExactChangesRow.holds Try.pinned (OpenSpec.ofChange fnExactChangesSpec)

/-- ITS FALSE NEIGHBOUR: 'it returns false'. Refute it at one input. -/
def fnExactChangesWrong : ChangeSpec := { name := "fnExactChanges", fn := fun _ => fun
  | [d1, d2] => { results := [.lit (.bool false)], args := [d1, d2] }
  | _ => none }
def FnExactChangesWrongFalsely : Prop := fnExactChangesRow.holds Try.pinned (OpenSpec.ofChange fnExactChangesWrong)

/-- 'laws.FnExactWalStep': WHATEVER THE INPUT: true; the input reads as it did. -/
def fnExactWalStepSpec : ChangeSpec := { name := "fnExactWalStep", fn := fun _ => fun
  | [d1, d2] => { results := [.lit (.bool true)], args := [d1, d2] }
  | _ => none }
def fnExactWalStepRow : OpenClaim := { program := "ytfmddjbekophnaa", sum := "251feb7ea461f540a861abf748fecac042f7d45ce596994c15b1e5e9dd090729", func := "loop.example/g00360/laws.FnExactWalStep", spec := "fnExactWalStep", apart := false }
def FnExactWalStepSaid : Prop := fnExactWalStepRow.holds Try.pinned (OpenSpec.ofChange fnExactWalStepSpec)

/-- ITS FALSE NEIGHBOUR: 'it returns false'. Refute it at one input. -/
def fnExactWalStepWrong : ChangeSpec := { name := "fnExactWalStep", fn := fun _ => fun
  | [d1, d2] => { results := [.lit (.bool false)], args := [d1, d2] }
  | _ => none }
def FnExactWalStepWrongFalsely : Prop := fnExactWalStepRow.holds Try.pinned (OpenSpec.ofChange fnExactWalStepWrong)

/-- 'laws.FnExactPlanAdd': WHATEVER THE INPUT: true; the input reads as it did. -/
def fnExactPlanAddSpec : ChangeSpec := { name := "fnExactPlanAdd", fn := fun _ => fun
  | [d1, d2] => { results := [.lit (.bool true)], args := [d1, d2] }
  | _ => none }
def fnExactPlanAddRow : OpenClaim := { program := "ytfmddjbekophnaa", sum := "251feb7ea461f540a861abf748fecac042f7d45ce596994c15b1e5e9dd090729", func := "loop.example/g00360/laws.FnExactPlanAdd", spec := "fnExactPlanAdd", apart := false }
def FnExactPlanAddSaid : Prop := fnExactPlanAddRow.holds Try.pinned (OpenSpec.ofChange fnExactPlanAddSpec)

/-- ITS FALSE NEIGHBOUR: 'it returns false'. Refute it at one input. -/
def fnExactPlanAddWrong : ChangeSpec := { name := "fnExactPlanAdd", fn := fun _ => fun
  | [d1, d2] => { results := [.lit (.bool false)], args := [d1, d2] }
  | _ => none }
def FnExactPlanAddWrongFalsely : Prop := fnExactPlanAddRow.holds Try.pinned (OpenSpec.ofChange fnExactPlanAddWrong)

/- THE SECOND FORM. 'bulk': how many values and letters a reading holds, each counted each time it is reached (what is shared counts as often as it is met; a slice's spare places count too). A statement '..UptoSaid' is the law's where the arguments, and the package variables that the reading takes, are together of bulk at most 1048576: NARROWER than '..Said'. Prove '..Said' where nothing that the law and all that it calls make is longer than what came in: it says more and counts as full. Else prove '..UptoSaid'. A law counts once. -/
mutual
def uptoBulk {H : Type} : DataW H → Nat
  | .lit (.string bytes) => bytes.length + 1
  | .lit _ => 1
  | .nil => 1
  | .ptr d => uptoBulk d + 1
  | .slice elems spare => uptoBulkAll elems + uptoBulkAll spare + 1
  | .agg parts => uptoBulkAll parts + 1
  | .iface _ d => uptoBulk d + 1
  | .map entries => uptoBulkEntries entries + 1
  | .held _ => 1
def uptoBulkAll {H : Type} : List (DataW H) → Nat
  | [] => 0
  | d :: r => uptoBulk d + uptoBulkAll r
def uptoBulkEntries {H : Type} : List (Lit × DataW H) → Nat
  | [] => 0
  | x :: r => uptoBulkEntry x + uptoBulkEntries r
def uptoBulkEntry {H : Type} : Lit × DataW H → Nat
  | (.string bytes, d) => bytes.length + uptoBulk d + 1
  | (_, d) => uptoBulk d + 1
 end
def uptoSmall : (H : Type) → List (DataW H) → Bool := fun _ ds => decide (uptoBulkAll ds ≤ 1048576)
def OpenSpec.upto (s : _root_.Go.ChangeSpec) : _root_.Go.OpenSpec := { _root_.Go.OpenSpec.ofChange s with cond := some uptoSmall }

/-- 'laws.FnExactPointsOk', WHERE WHAT IT READS IS OF BULK AT MOST 1048576: true; the input reads as it did. -/
def fnExactPointsOkUptoRow : OpenClaim := { program := "ytfmddjbekophnaa", sum := "251feb7ea461f540a861abf748fecac042f7d45ce596994c15b1e5e9dd090729", func := "loop.example/g00360/laws.FnExactPointsOk", spec := "fnExactPointsOk", apart := false, narrowed := true }
def FnExactPointsOkUptoSaid : Prop := fnExactPointsOkUptoRow.holds Try.pinned (OpenSpec.upto fnExactPointsOkSpec)

/-- 'laws.FnExactShowValues', WHERE WHAT IT READS IS OF BULK AT MOST 1048576: true; the input reads as it did. -/
def fnExactShowValuesUptoRow : OpenClaim := { program := "ytfmddjbekophnaa", sum := "251feb7ea461f540a861abf748fecac042f7d45ce596994c15b1e5e9dd090729", func := "loop.example/g00360/laws.FnExactShowValues", spec := "fnExactShowValues", apart := false, narrowed := true }
def FnExactShowValuesUptoSaid : Prop := fnExactShowValuesUptoRow.holds Try.pinned (OpenSpec.upto fnExactShowValuesSpec)

/-- 'laws.FnExactShowTimes', WHERE WHAT IT READS IS OF BULK AT MOST 1048576: true; the input reads as it did. -/
def fnExactShowTimesUptoRow : OpenClaim := { program := "ytfmddjbekophnaa", sum := "251feb7ea461f540a861abf748fecac042f7d45ce596994c15b1e5e9dd090729", func := "loop.example/g00360/laws.FnExactShowTimes", spec := "fnExactShowTimes", apart := false, narrowed := true }
def FnExactShowTimesUptoSaid : Prop := fnExactShowTimesUptoRow.holds Try.pinned (OpenSpec.upto fnExactShowTimesSpec)

/-- 'laws.FnExactSlice', WHERE WHAT IT READS IS OF BULK AT MOST 1048576: true; the input reads as it did. -/
def fnExactSliceUptoRow : OpenClaim := { program := "ytfmddjbekophnaa", sum := "251feb7ea461f540a861abf748fecac042f7d45ce596994c15b1e5e9dd090729", func := "loop.example/g00360/laws.FnExactSlice", spec := "fnExactSlice", unfollowed := true, recurses := true, apart := false, narrowed := true }
def FnExactSliceUptoSaid : Prop := fnExactSliceUptoRow.holds Try.pinned (OpenSpec.upto fnExactSliceSpec)

/-- 'laws.FnNumbers', WHERE WHAT IT READS IS OF BULK AT MOST 1048576: true; the input reads as it did. -/
def fnNumbersUptoRow : OpenClaim := { program := "ytfmddjbekophnaa", sum := "251feb7ea461f540a861abf748fecac042f7d45ce596994c15b1e5e9dd090729", func := "loop.example/g00360/laws.FnNumbers", spec := "fnNumbers", recurses := true, apart := false, narrowed := true }
def FnNumbersUptoSaid : Prop := fnNumbersUptoRow.holds Try.pinned (OpenSpec.upto fnNumbersSpec)

/-- 'laws.FnExactReadValues', WHERE WHAT IT READS IS OF BULK AT MOST 1048576: true; the input reads as it did. -/
def fnExactReadValuesUptoRow : OpenClaim := { program := "ytfmddjbekophnaa", sum := "251feb7ea461f540a861abf748fecac042f7d45ce596994c15b1e5e9dd090729", func := "loop.example/g00360/laws.FnExactReadValues", spec := "fnExactReadValues", apart := false, narrowed := true }
def FnExactReadValuesUptoSaid : Prop := fnExactReadValuesUptoRow.holds Try.pinned (OpenSpec.upto fnExactReadValuesSpec)

/-- 'laws.FnExactReadTimes', WHERE WHAT IT READS IS OF BULK AT MOST 1048576: true; the input reads as it did. -/
def fnExactReadTimesUptoRow : OpenClaim := { program := "ytfmddjbekophnaa", sum := "251feb7ea461f540a861abf748fecac042f7d45ce596994c15b1e5e9dd090729", func := "loop.example/g00360/laws.FnExactReadTimes", spec := "fnExactReadTimes", apart := false, narrowed := true }
def FnExactReadTimesUptoSaid : Prop := fnExactReadTimesUptoRow.holds Try.pinned (OpenSpec.upto fnExactReadTimesSpec)

/-- 'laws.FnBits', WHERE WHAT IT READS IS OF BULK AT MOST 1048576: true; the input reads as it did. -/
def fnBitsUptoRow : OpenClaim := { program := "ytfmddjbekophnaa", sum := "251feb7ea461f540a861abf748fecac042f7d45ce596994c15b1e5e9dd090729", func := "loop.example/g00360/laws.FnBits", spec := "fnBits", apart := false, narrowed := true }
def FnBitsUptoSaid : Prop := fnBitsUptoRow.holds Try.pinned (OpenSpec.upto fnBitsSpec)

/-- 'laws.FnExactWalText', WHERE WHAT IT READS IS OF BULK AT MOST 1048576: true; the input reads as it did. -/
def fnExactWalTextUptoRow : OpenClaim := { program := "ytfmddjbekophnaa", sum := "251feb7ea461f540a861abf748fecac042f7d45ce596994c15b1e5e9dd090729", func := "loop.example/g00360/laws.FnExactWalText", spec := "fnExactWalText", apart := false, narrowed := true }
def FnExactWalTextUptoSaid : Prop := fnExactWalTextUptoRow.holds Try.pinned (OpenSpec.upto fnExactWalTextSpec)

/-- 'laws.FnExactChanges', WHERE WHAT IT READS IS OF BULK AT MOST 1048576: true; the input reads as it did. -/
def fnExactChangesUptoRow : OpenClaim := { program := "ytfmddjbekophnaa", sum := "251feb7ea461f540a861abf748fecac042f7d45ce596994c15b1e5e9dd090729", func := "loop.example/g00360/laws.FnExactChanges", spec := "fnExactChanges", apart := false, narrowed := true }
def FnExactChangesUptoSaid : Prop := fnExactChangesUptoRow.holds Try.pinned (OpenSpec.upto fnExactChangesSpec)

/-- 'laws.FnExactWalStep', WHERE WHAT IT READS IS OF BULK AT MOST 1048576: true; the input reads as it did. -/
def fnExactWalStepUptoRow : OpenClaim := { program := "ytfmddjbekophnaa", sum := "251feb7ea461f540a861abf748fecac042f7d45ce596994c15b1e5e9dd090729", func := "loop.example/g00360/laws.FnExactWalStep", spec := "fnExactWalStep", apart := false, narrowed := true }
def FnExactWalStepUptoSaid : Prop := fnExactWalStepUptoRow.holds Try.pinned (OpenSpec.upto fnExactWalStepSpec)

/-- 'laws.FnExactPlanAdd', WHERE WHAT IT READS IS OF BULK AT MOST 1048576: true; the input reads as it did. -/
def fnExactPlanAddUptoRow : OpenClaim := { program := "ytfmddjbekophnaa", sum := "251feb7ea461f540a861abf748fecac042f7d45ce596994c15b1e5e9dd090729", func := "loop.example/g00360/laws.FnExactPlanAdd", spec := "fnExactPlanAdd", apart := false, narrowed := true }
def FnExactPlanAddUptoSaid : Prop := fnExactPlanAddUptoRow.holds Try.pinned (OpenSpec.upto fnExactPlanAddSpec)

end Rows
end Go.Proofs.Ytfmddjbekophnaa
