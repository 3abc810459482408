-- PRINTED by print.py (a twelfth state) out of the translation. Not trusted: Lean checks it.
import Derived.Test.YtfmddjbekophnaaProg
import Derived.Below
import Derived.Deep.Draws
import Derived.Deep.AppendLies
import Derived.Maps.AppendAt
import Derived.OwnWalk
import Derived.Laws.BytesArg
import Derived.Laws.MakeOwn
import Derived.Laws.OwnMore
import Derived.Deep.OwnRows
import Derived.Tactics
import Derived.Lib.ConvBytes
import Derived.Laws.Slices
import Derived.WalkKit
import Derived.KernelRfl
import Derived.RowKit3
import Derived.Deep.LoopGhost
import Derived.Deep.QuietTactic
import Derived.BigQuiet
import Derived.WideLaws
import Derived.Deep.DeepCutAuto
import Derived.Deep.CutBlock
import Derived.Deep.RegionHeld3
import Derived.Laws.Rows
import Derived.Lib.AppendStr
import Derived.ArgAppend
import Derived.Laws.IdiomCopy
import Derived.OrdersHeld
import Derived.Laws.BitsLemmas
import Derived.RowKit
import Derived.Lib.SliceRun
import Derived.Test.YtfmddjbekophnaaWWords
import Derived.Test.YtfmddjbekophnaaWLast
import Derived.Test.YtfmddjbekophnaaWTab
import Derived.Test.YtfmddjbekophnaaWFour
import Derived.Test.YtfmddjbekophnaaWQPut
import Derived.Test.YtfmddjbekophnaaWApart
import Derived.Test.YtfmddjbekophnaaWArr
import Derived.Test.YtfmddjbekophnaaWZeros
import Derived.Test.YtfmddjbekophnaaWFoot
import Derived.Test.YtfmddjbekophnaaWKept
import Derived.Test.YtfmddjbekophnaaWShare
import Derived.Test.YtfmddjbekophnaaWN
import Derived.Test.YtfmddjbekophnaaWFootNe
import Derived.Test.YtfmddjbekophnaaWAt
import Derived.Test.YtfmddjbekophnaaWEqStruct
import Derived.Test.YtfmddjbekophnaaWRepsOne
import Derived.Test.YtfmddjbekophnaaWInv
import Derived.Test.YtfmddjbekophnaaWInvWords
import Derived.Test.YtfmddjbekophnaaWGuard
import Derived.Test.YtfmddjbekophnaaWNEv
import Derived.Test.YtfmddjbekophnaaWMore
import Derived.Test.YtfmddjbekophnaaZip
namespace Go.Proofs.Ytfmddjbekophnaa.PFnBits
open Go.RowKit Go.Proofs.YtfmddjbekophnaaW.PrintWords Go.Proofs.YtfmddjbekophnaaW.PrintLast Go.Proofs.YtfmddjbekophnaaW.PrintMore Go.Proofs.Ytfmddjbekophnaa.Zip
attribute [local go_sem] max2_int min2_int max_two min_two max_three min_three max_four min_four   -- for this text's walks alone
set_option linter.unusedVariables false
set_option linter.unusedSimpArgs false



def errW : Option Int → Value
 | none => .nilIface
 | some c => .iface 0 (.int .i64 c)
theorem errW_none : errW none = .nilIface := rfl
theorem errW_some (c : Int) : errW (some c) = .iface 0 (.int .i64 c) := rfl

theorem info3 : (Try.prog.info? 3).map (fun i => (i.zero, i.size, i.bytes)) = some (some (.int .i64 0), 1, 8) := by kernel_rfl
theorem info5 : (Try.prog.info? 5).map (fun i => (i.zero, i.size, i.bytes)) = some (some (.int .u8 0), 1, 1) := by kernel_rfl
-- the values' own types

end Go.Proofs.Ytfmddjbekophnaa.PFnBits
