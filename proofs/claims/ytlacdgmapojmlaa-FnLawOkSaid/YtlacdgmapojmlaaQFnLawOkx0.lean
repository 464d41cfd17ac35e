-- Printed for this claim by a turned copy of the print (wip/myprint). Lean checks it. Squeezed.
import Derived.Test.YtlacdgmapojmlaaProg
import Derived.Below
import Derived.Deep.Draws
import Derived.Deep.AppendLies
import Derived.Maps.AppendAt
import Derived.OwnWalk
import Derived.Laws.BytesArg
import Derived.Laws.MakeOwn
import Derived.Laws.OwnMore
import Derived.Deep.OwnRows
import Derived.Tactics
import Derived.Lib.ConvBytes
import Derived.Laws.Slices
import Derived.WalkKit
import Derived.KernelRfl
import Derived.RowKit3
import Derived.Deep.LoopGhost
import Derived.Deep.QuietTactic
import Derived.BigQuiet
import Derived.WideLaws
import Derived.Deep.DeepCutAuto
import Derived.Deep.CutBlock
import Derived.Deep.RegionHeld3
import Derived.Laws.Rows
import Derived.Lib.AppendStr
import Derived.ArgAppend
import Derived.Laws.IdiomCopy
import Derived.OrdersHeld
import Derived.Laws.BitsLemmas
import Derived.RowKit
import Derived.Test.YtlacdgmapojmlaaUFnLawOkOpens
import Derived.Test.YtlacdgmapojmlaaUFnLawOkWWords
import Derived.Test.YtlacdgmapojmlaaUFnLawOkWLast
import Derived.Test.YtlacdgmapojmlaaUFnLawOkWTab
import Derived.Test.YtlacdgmapojmlaaUFnLawOkWFour
import Derived.Test.YtlacdgmapojmlaaUFnLawOkWQPut
import Derived.Test.YtlacdgmapojmlaaUFnLawOkWApart
import Derived.Test.YtlacdgmapojmlaaUFnLawOkWArr
import Derived.Test.YtlacdgmapojmlaaUFnLawOkWZeros
import Derived.Test.YtlacdgmapojmlaaUFnLawOkWFoot
import Derived.Test.YtlacdgmapojmlaaUFnLawOkWKept
import Derived.Test.YtlacdgmapojmlaaUFnLawOkWShare
import Derived.Test.YtlacdgmapojmlaaUFnLawOkWN
import Derived.Test.YtlacdgmapojmlaaUFnLawOkWFootNe
import Derived.Test.YtlacdgmapojmlaaUFnLawOkWAt
import Derived.Test.YtlacdgmapojmlaaUFnLawOkWEqStruct
import Derived.Test.YtlacdgmapojmlaaUFnLawOkWRepsOne
import Derived.Test.YtlacdgmapojmlaaUFnLawOkWInv
import Derived.Test.YtlacdgmapojmlaaUFnLawOkWInvWords
import Derived.Test.YtlacdgmapojmlaaUFnLawOkWGuard
import Derived.Test.YtlacdgmapojmlaaUFnLawOkWNEv
import Derived.Test.YtlacdgmapojmlaaUFnLawOkWMore
namespace Go.Proofs.Ytlacdgmapojmlaa.QFnLawOk
open Go.RowKit Go.Proofs.YtlacdgmapojmlaaW.PrintWords Go.Proofs.YtlacdgmapojmlaaW.PrintLast Go.Proofs.YtlacdgmapojmlaaW.PrintMore
attribute [local go_sem] max2_int min2_int max_two min_two max_three min_three max_four min_four Opens.cell_twice   -- for this text's walks alone
set_option linter.unusedVariables false
set_option linter.unusedSimpArgs false



def errW : Option Int → Value
 | none => .nilIface
 | some c => .iface 0 (.int .i64 c)
theorem errW_none : errW none = .nilIface := rfl
theorem errW_some (c : Int) : errW (some c) = .iface 0 (.int .i64 c) := rfl

theorem info3 : (Try.prog.info? 3).map (fun i => (i.zero, i.size, i.bytes)) = some (some (.int .i64 0), 1, 8) := by kernel_rfl
theorem info5 : (Try.prog.info? 5).map (fun i => (i.zero, i.size, i.bytes)) = some (some (.int .u8 0), 1, 1) := by kernel_rfl
-- the values' own types

end Go.Proofs.Ytlacdgmapojmlaa.QFnLawOk
