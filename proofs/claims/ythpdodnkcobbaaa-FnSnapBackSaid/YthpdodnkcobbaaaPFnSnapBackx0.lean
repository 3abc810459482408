-- PRINTED by print.py (a twelfth state) out of the translation. Not trusted: Lean checks it.
import Derived.Test.YthpdodnkcobbaaaProg
import Derived.Below
import Derived.Deep.Draws
import Derived.Deep.AppendLies
import Derived.Maps.AppendAt
import Derived.OwnWalk
import Derived.Laws.BytesArg
import Derived.Laws.MakeOwn
import Derived.Laws.OwnMore
import Derived.Deep.OwnRows
import Derived.Tactics
import Derived.Lib.ConvBytes
import Derived.Laws.Slices
import Derived.WalkKit
import Derived.KernelRfl
import Derived.RowKit3
import Derived.Deep.LoopGhost
import Derived.Deep.QuietTactic
import Derived.BigQuiet
import Derived.WideLaws
import Derived.Deep.DeepCutAuto
import Derived.Deep.CutBlock
import Derived.Deep.RegionHeld3
import Derived.Laws.Rows
import Derived.Lib.AppendStr
import Derived.ArgAppend
import Derived.Laws.IdiomCopy
import Derived.OrdersHeld
import Derived.Laws.BitsLemmas
import Derived.RowKit
import Derived.Test.YthpdodnkcobbaaaWWords
import Derived.Test.YthpdodnkcobbaaaWLast
import Derived.Test.YthpdodnkcobbaaaWTab
import Derived.Test.YthpdodnkcobbaaaWFour
import Derived.Test.YthpdodnkcobbaaaWQPut
import Derived.Test.YthpdodnkcobbaaaWApart
import Derived.Test.YthpdodnkcobbaaaWArr
import Derived.Test.YthpdodnkcobbaaaWZeros
import Derived.Test.YthpdodnkcobbaaaWFoot
import Derived.Test.YthpdodnkcobbaaaWKept
import Derived.Test.YthpdodnkcobbaaaWShare
import Derived.Test.YthpdodnkcobbaaaWN
import Derived.Test.YthpdodnkcobbaaaWFootNe
import Derived.Test.YthpdodnkcobbaaaWAt
import Derived.Test.YthpdodnkcobbaaaWEqStruct
import Derived.Test.YthpdodnkcobbaaaWRepsOne
import Derived.Test.YthpdodnkcobbaaaWInv
import Derived.Test.YthpdodnkcobbaaaWInvWords
import Derived.Test.YthpdodnkcobbaaaWGuard
import Derived.Test.YthpdodnkcobbaaaWNEv
import Derived.Test.YthpdodnkcobbaaaWMore
namespace Go.Proofs.Ythpdodnkcobbaaa.PFnSnapBack
open Go.RowKit Go.Proofs.YthpdodnkcobbaaaW.PrintWords Go.Proofs.YthpdodnkcobbaaaW.PrintLast Go.Proofs.YthpdodnkcobbaaaW.PrintMore
attribute [local go_sem] max2_int min2_int max_two min_two max_three min_three max_four min_four   -- for this text's walks alone
set_option linter.unusedVariables false
set_option linter.unusedSimpArgs false



def errW : Option Int → Value
  | none => .nilIface
  | some c => .iface 0 (.int .i64 c)
theorem errW_none : errW none = .nilIface := rfl
theorem errW_some (c : Int) : errW (some c) = .iface 0 (.int .i64 c) := rfl

theorem info3 : (Try.prog.info? 3).map (fun i => (i.zero, i.size, i.bytes)) = some (some (.int .i64 0), 1, 8) := by kernel_rfl
theorem info5 : (Try.prog.info? 5).map (fun i => (i.zero, i.size, i.bytes)) = some (some (.int .u8 0), 1, 1) := by kernel_rfl
-- the values' own types

end Go.Proofs.Ythpdodnkcobbaaa.PFnSnapBack
