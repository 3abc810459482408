/-
  No cell of these rows narrows 'for every input' (looked for: loops, veiled, ifaces, maps, wideKeys, modest, calm, conditions, laid).
  DERIVED. THE GIVEN ROWS OF THIS SEAT. 12 by the template 'for every input the law returns true; each argument reads behind the call as it read before'; 0 by the template 'total and deterministic' (their statements: YthpdodnkcobbaaaTotals.lean).
  GIVEN WITH THE SEED: the statements are not yours to turn. If you find one false, say at which input.
  Laid BY PROGRAM, IN A SANDBOX (cutbox-rows.mjs): the forced cells as the released guide's own fill.sh prints them over the translation 463c3e4c381ae0d5… (all of the seat's roots in one cut). By AI agents, Wed Nov 11 2026. No macro, syntax, notation, axiom, sorry.
-/
import Derived.Test.YthpdodnkcobbaaaChecked
import GoSem.Claim
import GoSem.ClaimJoined
import GoSem.ClaimMapViews
import Derived.JoinedTies
import Derived.KernelRfl
namespace Go.Proofs.Ythpdodnkcobbaaa
/- THE CELL 'sum', in the pinned program and in every row, IS THE sha256 OF THE DUMP (.gsa) THAT YthpdodnkcobbaaaProg.lean LOADS. Nothing in Lean hashes anything: it is a label: what it is worth is what the hold of that sum in a sandbox is worth. -/
noncomputable def Try.pinned : Pinned := { name := "ythpdodnkcobbaaa", sum := "463c3e4c381ae0d54d0c19888ca847429c198c3959432f9226c9835f6860145e", checked := Try.checked }
namespace Rows
def none {H : Type} : Left H := { results := [], args := [] }

/-- 'laws.FnExactSnapOk': WHATEVER THE INPUT: true; the input reads as it did. -/
def fnExactSnapOkSpec : ChangeSpec := { name := "fnExactSnapOk", fn := fun _ => fun
  | [d] => { results := [.lit (.bool true)], args := [d] }
  | _ => none }
def fnExactSnapOkRow : OpenClaim := { program := "ythpdodnkcobbaaa", sum := "463c3e4c381ae0d54d0c19888ca847429c198c3959432f9226c9835f6860145e", func := "loop.example/g00360/laws.FnExactSnapOk", spec := "fnExactSnapOk", apart := false }
def FnExactSnapOkSaid : Prop := fnExactSnapOkRow.holds Try.pinned (OpenSpec.ofChange fnExactSnapOkSpec)

/-- ITS FALSE NEIGHBOUR: 'it returns false'. Refute it at one input. -/
def fnExactSnapOkWrong : ChangeSpec := { name := "fnExactSnapOk", fn := fun _ => fun
  | [d] => { results := [.lit (.bool false)], args := [d] }
  | _ => none }
def FnExactSnapOkWrongFalsely : Prop := fnExactSnapOkRow.holds Try.pinned (OpenSpec.ofChange fnExactSnapOkWrong)

/-- 'laws.FnExactRecOk': WHATEVER THE INPUT: true; the input reads as it did. -/
def fnExactRecOkSpec : ChangeSpec := { name := "fnExactRecOk", fn := fun _ => fun
  | [d] => { results := [.lit (.bool true)], args := [d] }
  | _ => none }
def fnExactRecOkRow : OpenClaim := { program := "ythpdodnkcobbaaa", sum := "463c3e4c381ae0d54d0c19888ca847429c198c3959432f9226c9835f6860145e", func := "loop.example/g00360/laws.FnExactRecOk", spec := "fnExactRecOk", apart := false }
def FnExactRecOkSaid : Prop := fnExactRecOkRow.holds Try.pinned (OpenSpec.ofChange fnExactRecOkSpec)

/-- ITS FALSE NEIGHBOUR: 'it returns false'. Refute it at one input. -/
def fnExactRecOkWrong : ChangeSpec := { name := "fnExactRecOk", fn := fun _ => fun
  | [d] => { results := [.lit (.bool false)], args := [d] }
  | _ => none }
def FnExactRecOkWrongFalsely : Prop := fnExactRecOkRow.holds Try.pinned (OpenSpec.ofChange fnExactRecOkWrong)

/-- 'laws.FnExactFrame': WHATEVER THE INPUT: true; the input reads as it did. -/
def fnExactFrameSpec : ChangeSpec := { name := "fnExactFrame", fn := fun _ => fun
  | [d] => { results := [.lit (.bool true)], args := [d] }
  | _ => none }
def fnExactFrameRow : OpenClaim := { program := "ythpdodnkcobbaaa", sum := "463c3e4c381ae0d54d0c19888ca847429c198c3959432f9226c9835f6860145e", func := "loop.example/g00360/laws.FnExactFrame", spec := "fnExactFrame", apart := false }
def FnExactFrameSaid : Prop := fnExactFrameRow.holds Try.pinned (OpenSpec.ofChange fnExactFrameSpec)

/-- ITS FALSE NEIGHBOUR: 'it returns false'. Refute it at one input. -/
def fnExactFrameWrong : ChangeSpec := { name := "fnExactFrame", fn := fun _ => fun
  | [d] => { results := [.lit (.bool false)], args := [d] }
  | _ => none }
def FnExactFrameWrongFalsely : Prop := fnExactFrameRow.holds Try.pinned (OpenSpec.ofChange fnExactFrameWrong)

/-- 'laws.FnExactShowRec': WHATEVER THE INPUT: true; the input reads as it did. -/
def fnExactShowRecSpec : ChangeSpec := { name := "fnExactShowRec", fn := fun _ => fun
  | [d] => { results := [.lit (.bool true)], args := [d] }
  | _ => none }
def fnExactShowRecRow : OpenClaim := { program := "ythpdodnkcobbaaa", sum := "463c3e4c381ae0d54d0c19888ca847429c198c3959432f9226c9835f6860145e", func := "loop.example/g00360/laws.FnExactShowRec", spec := "fnExactShowRec", apart := false }
def FnExactShowRecSaid : Prop := fnExactShowRecRow.holds Try.pinned (OpenSpec.ofChange fnExactShowRecSpec)

/-- ITS FALSE NEIGHBOUR: 'it returns false'. Refute it at one input. -/
def fnExactShowRecWrong : ChangeSpec := { name := "fnExactShowRec", fn := fun _ => fun
  | [d] => { results := [.lit (.bool false)], args := [d] }
  | _ => none }
def FnExactShowRecWrongFalsely : Prop := fnExactShowRecRow.holds Try.pinned (OpenSpec.ofChange fnExactShowRecWrong)

/-- 'laws.FnExactShowSnap': WHATEVER THE INPUT: true; the input reads as it did. -/
def fnExactShowSnapSpec : ChangeSpec := { name := "fnExactShowSnap", fn := fun _ => fun
  | [d] => { results := [.lit (.bool true)], args := [d] }
  | _ => none }
def fnExactShowSnapRow : OpenClaim := { program := "ythpdodnkcobbaaa", sum := "463c3e4c381ae0d54d0c19888ca847429c198c3959432f9226c9835f6860145e", func := "loop.example/g00360/laws.FnExactShowSnap", spec := "fnExactShowSnap", apart := false }
def FnExactShowSnapSaid : Prop := fnExactShowSnapRow.holds Try.pinned (OpenSpec.ofChange fnExactShowSnapSpec)

/-- ITS FALSE NEIGHBOUR: 'it returns false'. Refute it at one input. -/
def fnExactShowSnapWrong : ChangeSpec := { name := "fnExactShowSnap", fn := fun _ => fun
  | [d] => { results := [.lit (.bool false)], args := [d] }
  | _ => none }
def FnExactShowSnapWrongFalsely : Prop := fnExactShowSnapRow.holds Try.pinned (OpenSpec.ofChange fnExactShowSnapWrong)

/-- 'laws.FnExactUnframe': WHATEVER THE INPUT: true; the input reads as it did. -/
def fnExactUnframeSpec : ChangeSpec := { name := "fnExactUnframe", fn := fun _ => fun
  | [d] => { results := [.lit (.bool true)], args := [d] }
  | _ => none }
def fnExactUnframeRow : OpenClaim := { program := "ythpdodnkcobbaaa", sum := "463c3e4c381ae0d54d0c19888ca847429c198c3959432f9226c9835f6860145e", func := "loop.example/g00360/laws.FnExactUnframe", spec := "fnExactUnframe", apart := false }
def FnExactUnframeSaid : Prop := fnExactUnframeRow.holds Try.pinned (OpenSpec.ofChange fnExactUnframeSpec)

/-- ITS FALSE NEIGHBOUR: 'it returns false'. Refute it at one input. -/
def fnExactUnframeWrong : ChangeSpec := { name := "fnExactUnframe", fn := fun _ => fun
  | [d] => { results := [.lit (.bool false)], args := [d] }
  | _ => none }
def FnExactUnframeWrongFalsely : Prop := fnExactUnframeRow.holds Try.pinned (OpenSpec.ofChange fnExactUnframeWrong)

/-- 'laws.FnExactWalOk': WHATEVER THE INPUT: true; the input reads as it did. -/
def fnExactWalOkSpec : ChangeSpec := { name := "fnExactWalOk", fn := fun _ => fun
  | [d] => { results := [.lit (.bool true)], args := [d] }
  | _ => none }
def fnExactWalOkRow : OpenClaim := { program := "ythpdodnkcobbaaa", sum := "463c3e4c381ae0d54d0c19888ca847429c198c3959432f9226c9835f6860145e", func := "loop.example/g00360/laws.FnExactWalOk", spec := "fnExactWalOk", apart := false }
def FnExactWalOkSaid : Prop := fnExactWalOkRow.holds Try.pinned (OpenSpec.ofChange fnExactWalOkSpec)

/-- ITS FALSE NEIGHBOUR: 'it returns false'. Refute it at one input. -/
def fnExactWalOkWrong : ChangeSpec := { name := "fnExactWalOk", fn := fun _ => fun
  | [d] => { results := [.lit (.bool false)], args := [d] }
  | _ => none }
def FnExactWalOkWrongFalsely : Prop := fnExactWalOkRow.holds Try.pinned (OpenSpec.ofChange fnExactWalOkWrong)

/-- 'laws.FnFrames': WHATEVER THE INPUT: true; the input reads as it did. -/
def fnFramesSpec : ChangeSpec := { name := "fnFrames", fn := fun _ => fun
  | [d] => { results := [.lit (.bool true)], args := [d] }
  | _ => none }
def fnFramesRow : OpenClaim := { program := "ythpdodnkcobbaaa", sum := "463c3e4c381ae0d54d0c19888ca847429c198c3959432f9226c9835f6860145e", func := "loop.example/g00360/laws.FnFrames", spec := "fnFrames", apart := false }
def FnFramesSaid : Prop := fnFramesRow.holds Try.pinned (OpenSpec.ofChange fnFramesSpec)

/-- ITS FALSE NEIGHBOUR: 'it returns false'. Refute it at one input. -/
def fnFramesWrong : ChangeSpec := { name := "fnFrames", fn := fun _ => fun
  | [d] => { results := [.lit (.bool false)], args := [d] }
  | _ => none }
def FnFramesWrongFalsely : Prop := fnFramesRow.holds Try.pinned (OpenSpec.ofChange fnFramesWrong)

/-- 'laws.FnSnapBack': WHATEVER THE INPUT: true; the input reads as it did. -/
def fnSnapBackSpec : ChangeSpec := { name := "fnSnapBack", fn := fun _ => fun
  | [d] => { results := [.lit (.bool true)], args := [d] }
  | _ => none }
def fnSnapBackRow : OpenClaim := { program := "ythpdodnkcobbaaa", sum := "463c3e4c381ae0d54d0c19888ca847429c198c3959432f9226c9835f6860145e", func := "loop.example/g00360/laws.FnSnapBack", spec := "fnSnapBack", apart := false }
def FnSnapBackSaid : Prop := fnSnapBackRow.holds Try.pinned (OpenSpec.ofChange fnSnapBackSpec)

/-- ITS FALSE NEIGHBOUR: 'it returns false'. Refute it at one input. -/
def fnSnapBackWrong : ChangeSpec := { name := "fnSnapBack", fn := fun _ => fun
  | [d] => { results := [.lit (.bool false)], args := [d] }
  | _ => none }
def FnSnapBackWrongFalsely : Prop := fnSnapBackRow.holds Try.pinned (OpenSpec.ofChange fnSnapBackWrong)

/-- 'laws.FnExactReadRec': WHATEVER THE INPUT: true; the input reads as it did. -/
def fnExactReadRecSpec : ChangeSpec := { name := "fnExactReadRec", fn := fun _ => fun
  | [d] => { results := [.lit (.bool true)], args := [d] }
  | _ => none }
def fnExactReadRecRow : OpenClaim := { program := "ythpdodnkcobbaaa", sum := "463c3e4c381ae0d54d0c19888ca847429c198c3959432f9226c9835f6860145e", func := "loop.example/g00360/laws.FnExactReadRec", spec := "fnExactReadRec", apart := false }
def FnExactReadRecSaid : Prop := fnExactReadRecRow.holds Try.pinned (OpenSpec.ofChange fnExactReadRecSpec)

/-- ITS FALSE NEIGHBOUR: 'it returns false'. Refute it at one input. -/
def fnExactReadRecWrong : ChangeSpec := { name := "fnExactReadRec", fn := fun _ => fun
  | [d] => { results := [.lit (.bool false)], args := [d] }
  | _ => none }
def FnExactReadRecWrongFalsely : Prop := fnExactReadRecRow.holds Try.pinned (OpenSpec.ofChange fnExactReadRecWrong)

/-- 'laws.FnExactReadSnap': WHATEVER THE INPUT: true; the input reads as it did. -/
def fnExactReadSnapSpec : ChangeSpec := { name := "fnExactReadSnap", fn := fun _ => fun
  | [d] => { results := [.lit (.bool true)], args := [d] }
  | _ => none }
def fnExactReadSnapRow : OpenClaim := { program := "ythpdodnkcobbaaa", sum := "463c3e4c381ae0d54d0c19888ca847429c198c3959432f9226c9835f6860145e", func := "loop.example/g00360/laws.FnExactReadSnap", spec := "fnExactReadSnap", apart := false }
def FnExactReadSnapSaid : Prop := fnExactReadSnapRow.holds Try.pinned (OpenSpec.ofChange fnExactReadSnapSpec)

/-- ITS FALSE NEIGHBOUR: 'it returns false'. Refute it at one input. -/
def fnExactReadSnapWrong : ChangeSpec := { name := "fnExactReadSnap", fn := fun _ => fun
  | [d] => { results := [.lit (.bool false)], args := [d] }
  | _ => none }
def FnExactReadSnapWrongFalsely : Prop := fnExactReadSnapRow.holds Try.pinned (OpenSpec.ofChange fnExactReadSnapWrong)

/-- 'laws.FnExactFrames': WHATEVER THE INPUT: true; the input reads as it did. -/
def fnExactFramesSpec : ChangeSpec := { name := "fnExactFrames", fn := fun _ => fun
  | [d] => { results := [.lit (.bool true)], args := [d] }
  | _ => none }
def fnExactFramesRow : OpenClaim := { program := "ythpdodnkcobbaaa", sum := "463c3e4c381ae0d54d0c19888ca847429c198c3959432f9226c9835f6860145e", func := "loop.example/g00360/laws.FnExactFrames", spec := "fnExactFrames", apart := false }
def FnExactFramesSaid : Prop := fnExactFramesRow.holds Try.pinned (OpenSpec.ofChange fnExactFramesSpec)

/-- ITS FALSE NEIGHBOUR: 'it returns false'. Refute it at one input. -/
def fnExactFramesWrong : ChangeSpec := { name := "fnExactFrames", fn := fun _ => fun
  | [d] => { results := [.lit (.bool false)], args := [d] }
  | _ => none }
def FnExactFramesWrongFalsely : Prop := fnExactFramesRow.holds Try.pinned (OpenSpec.ofChange fnExactFramesWrong)

/- THE SECOND FORM. 'bulk': how many values and letters a reading holds, each counted each time it is reached (what is shared counts as often as it is met; a slice's spare places count too). A statement '..UptoSaid' is the law's where the arguments, and the package variables that the reading takes, are together of bulk at most 1048576: NARROWER than '..Said'. Prove '..Said' where nothing that the law and all that it calls make is longer than what came in: it says more and counts as full. Else prove '..UptoSaid'. A law counts once. -/
mutual
def uptoBulk {H : Type} : DataW H → Nat
  | .lit (.string bytes) => bytes.length + 1
  | .lit _ => 1
  | .nil => 1
  | .ptr d => uptoBulk d + 1
  | .slice elems spare => uptoBulkAll elems + uptoBulkAll spare + 1
  | .agg parts => uptoBulkAll parts + 1
  | .iface _ d => uptoBulk d + 1
  | .map entries => uptoBulkEntries entries + 1
  | .held _ => 1
def uptoBulkAll {H : Type} : List (DataW H) → Nat
  | [] => 0
  | d :: r => uptoBulk d + uptoBulkAll r
def uptoBulkEntries {H : Type} : List (Lit × DataW H) → Nat
  | [] => 0
  | x :: r => uptoBulkEntry x + uptoBulkEntries r
def uptoBulkEntry {H : Type} : Lit × DataW H → Nat
  | (.string bytes, d) => bytes.length + uptoBulk d + 1
  | (_, d) => uptoBulk d + 1
 end
def uptoSmall : (H : Type) → List (DataW H) → Bool := fun _ ds => decide (uptoBulkAll ds ≤ 1048576)
def OpenSpec.upto (s : _root_.Go.ChangeSpec) : _root_.Go.OpenSpec := { _root_.Go.OpenSpec.ofChange s with cond := some uptoSmall }

/-- 'laws.FnExactSnapOk', WHERE WHAT IT READS IS OF BULK AT MOST 1048576: true; the input reads as it did. -/
def fnExactSnapOkUptoRow : OpenClaim := { program := "ythpdodnkcobbaaa", sum := "463c3e4c381ae0d54d0c19888ca847429c198c3959432f9226c9835f6860145e", func := "loop.example/g00360/laws.FnExactSnapOk", spec := "fnExactSnapOk", apart := false, narrowed := true }
def FnExactSnapOkUptoSaid : Prop := fnExactSnapOkUptoRow.holds Try.pinned (OpenSpec.upto fnExactSnapOkSpec)

/-- 'laws.FnExactRecOk', WHERE WHAT IT READS IS OF BULK AT MOST 1048576: true; the input reads as it did. -/
def fnExactRecOkUptoRow : OpenClaim := { program := "ythpdodnkcobbaaa", sum := "463c3e4c381ae0d54d0c19888ca847429c198c3959432f9226c9835f6860145e", func := "loop.example/g00360/laws.FnExactRecOk", spec := "fnExactRecOk", apart := false, narrowed := true }
def FnExactRecOkUptoSaid : Prop := fnExactRecOkUptoRow.holds Try.pinned (OpenSpec.upto fnExactRecOkSpec)

/-- 'laws.FnExactFrame', WHERE WHAT IT READS IS OF BULK AT MOST 1048576: true; the input reads as it did. -/
def fnExactFrameUptoRow : OpenClaim := { program := "ythpdodnkcobbaaa", sum := "463c3e4c381ae0d54d0c19888ca847429c198c3959432f9226c9835f6860145e", func := "loop.example/g00360/laws.FnExactFrame", spec := "fnExactFrame", apart := false, narrowed := true }
def FnExactFrameUptoSaid : Prop := fnExactFrameUptoRow.holds Try.pinned (OpenSpec.upto fnExactFrameSpec)

/-- 'laws.FnExactShowRec', WHERE WHAT IT READS IS OF BULK AT MOST 1048576: true; the input reads as it did. -/
def fnExactShowRecUptoRow : OpenClaim := { program := "ythpdodnkcobbaaa", sum := "463c3e4c381ae0d54d0c19888ca847429c198c3959432f9226c9835f6860145e", func := "loop.example/g00360/laws.FnExactShowRec", spec := "fnExactShowRec", apart := false, narrowed := true }
def FnExactShowRecUptoSaid : Prop := fnExactShowRecUptoRow.holds Try.pinned (OpenSpec.upto fnExactShowRecSpec)

/-- 'laws.FnExactShowSnap', WHERE WHAT IT READS IS OF BULK AT MOST 1048576: true; the input reads as it did. -/
def fnExactShowSnapUptoRow : OpenClaim := { program := "ythpdodnkcobbaaa", sum := "463c3e4c381ae0d54d0c19888ca847429c198c3959432f9226c9835f6860145e", func := "loop.example/g00360/laws.FnExactShowSnap", spec := "fnExactShowSnap", apart := false, narrowed := true }
def FnExactShowSnapUptoSaid : Prop := fnExactShowSnapUptoRow.holds Try.pinned (OpenSpec.upto fnExactShowSnapSpec)

/-- 'laws.FnExactUnframe', WHERE WHAT IT READS IS OF BULK AT MOST 1048576: true; the input reads as it did. -/
def fnExactUnframeUptoRow : OpenClaim := { program := "ythpdodnkcobbaaa", sum := "463c3e4c381ae0d54d0c19888ca847429c198c3959432f9226c9835f6860145e", func := "loop.example/g00360/laws.FnExactUnframe", spec := "fnExactUnframe", apart := false, narrowed := true }
def FnExactUnframeUptoSaid : Prop := fnExactUnframeUptoRow.holds Try.pinned (OpenSpec.upto fnExactUnframeSpec)

/-- 'laws.FnExactWalOk', WHERE WHAT IT READS IS OF BULK AT MOST 1048576: true; the input reads as it did. -/
def fnExactWalOkUptoRow : OpenClaim := { program := "ythpdodnkcobbaaa", sum := "463c3e4c381ae0d54d0c19888ca847429c198c3959432f9226c9835f6860145e", func := "loop.example/g00360/laws.FnExactWalOk", spec := "fnExactWalOk", apart := false, narrowed := true }
def FnExactWalOkUptoSaid : Prop := fnExactWalOkUptoRow.holds Try.pinned (OpenSpec.upto fnExactWalOkSpec)

/-- 'laws.FnFrames', WHERE WHAT IT READS IS OF BULK AT MOST 1048576: true; the input reads as it did. -/
def fnFramesUptoRow : OpenClaim := { program := "ythpdodnkcobbaaa", sum := "463c3e4c381ae0d54d0c19888ca847429c198c3959432f9226c9835f6860145e", func := "loop.example/g00360/laws.FnFrames", spec := "fnFrames", apart := false, narrowed := true }
def FnFramesUptoSaid : Prop := fnFramesUptoRow.holds Try.pinned (OpenSpec.upto fnFramesSpec)

/-- 'laws.FnSnapBack', WHERE WHAT IT READS IS OF BULK AT MOST 1048576: true; the input reads as it did. -/
def fnSnapBackUptoRow : OpenClaim := { program := "ythpdodnkcobbaaa", sum := "463c3e4c381ae0d54d0c19888ca847429c198c3959432f9226c9835f6860145e", func := "loop.example/g00360/laws.FnSnapBack", spec := "fnSnapBack", apart := false, narrowed := true }
def FnSnapBackUptoSaid : Prop := fnSnapBackUptoRow.holds Try.pinned (OpenSpec.upto fnSnapBackSpec)

/-- 'laws.FnExactReadRec', WHERE WHAT IT READS IS OF BULK AT MOST 1048576: true; the input reads as it did. -/
def fnExactReadRecUptoRow : OpenClaim := { program := "ythpdodnkcobbaaa", sum := "463c3e4c381ae0d54d0c19888ca847429c198c3959432f9226c9835f6860145e", func := "loop.example/g00360/laws.FnExactReadRec", spec := "fnExactReadRec", apart := false, narrowed := true }
def FnExactReadRecUptoSaid : Prop := fnExactReadRecUptoRow.holds Try.pinned (OpenSpec.upto fnExactReadRecSpec)

/-- 'laws.FnExactReadSnap', WHERE WHAT IT READS IS OF BULK AT MOST 1048576: true; the input reads as it did. -/
def fnExactReadSnapUptoRow : OpenClaim := { program := "ythpdodnkcobbaaa", sum := "463c3e4c381ae0d54d0c19888ca847429c198c3959432f9226c9835f6860145e", func := "loop.example/g00360/laws.FnExactReadSnap", spec := "fnExactReadSnap", apart := false, narrowed := true }
def FnExactReadSnapUptoSaid : Prop := fnExactReadSnapUptoRow.holds Try.pinned (OpenSpec.upto fnExactReadSnapSpec)

/-- 'laws.FnExactFrames', WHERE WHAT IT READS IS OF BULK AT MOST 1048576: true; the input reads as it did. -/
def fnExactFramesUptoRow : OpenClaim := { program := "ythpdodnkcobbaaa", sum := "463c3e4c381ae0d54d0c19888ca847429c198c3959432f9226c9835f6860145e", func := "loop.example/g00360/laws.FnExactFrames", spec := "fnExactFrames", apart := false, narrowed := true }
def FnExactFramesUptoSaid : Prop := fnExactFramesUptoRow.holds Try.pinned (OpenSpec.upto fnExactFramesSpec)

end Rows
end Go.Proofs.Ythpdodnkcobbaaa
