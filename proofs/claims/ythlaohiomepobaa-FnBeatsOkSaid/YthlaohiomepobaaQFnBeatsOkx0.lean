-- Printed for this claim by a turned copy of the print (wip/myprint). Lean checks it.
import Derived.Test.YthlaohiomepobaaProg
import Derived.Below
import Derived.Deep.Draws
import Derived.Deep.AppendLies
import Derived.Maps.AppendAt
import Derived.OwnWalk
import Derived.Laws.BytesArg
import Derived.Laws.MakeOwn
import Derived.Laws.OwnMore
import Derived.Deep.OwnRows
import Derived.Tactics
import Derived.Lib.ConvBytes
import Derived.Laws.Slices
import Derived.WalkKit
import Derived.KernelRfl
import Derived.RowKit3
import Derived.Deep.LoopGhost
import Derived.Deep.QuietTactic
import Derived.BigQuiet
import Derived.WideLaws
import Derived.Deep.DeepCutAuto
import Derived.Deep.CutBlock
import Derived.Deep.RegionHeld3
import Derived.Laws.Rows
import Derived.Lib.AppendStr
import Derived.ArgAppend
import Derived.Laws.IdiomCopy
import Derived.OrdersHeld
import Derived.Laws.BitsLemmas
import Derived.RowKit
import Derived.Test.YthlaohiomepobaaOpens
import Derived.Test.YthlaohiomepobaaWWords
import Derived.Test.YthlaohiomepobaaWLast
import Derived.Test.YthlaohiomepobaaWTab
import Derived.Test.YthlaohiomepobaaWFour
import Derived.Test.YthlaohiomepobaaWQPut
import Derived.Test.YthlaohiomepobaaWApart
import Derived.Test.YthlaohiomepobaaWArr
import Derived.Test.YthlaohiomepobaaWZeros
import Derived.Test.YthlaohiomepobaaWFoot
import Derived.Test.YthlaohiomepobaaWKept
import Derived.Test.YthlaohiomepobaaWShare
import Derived.Test.YthlaohiomepobaaWN
import Derived.Test.YthlaohiomepobaaWFootNe
import Derived.Test.YthlaohiomepobaaWAt
import Derived.Test.YthlaohiomepobaaWEqStruct
import Derived.Test.YthlaohiomepobaaWRepsOne
import Derived.Test.YthlaohiomepobaaWInv
import Derived.Test.YthlaohiomepobaaWInvWords
import Derived.Test.YthlaohiomepobaaWGuard
import Derived.Test.YthlaohiomepobaaWNEv
import Derived.Test.YthlaohiomepobaaWMore
namespace Go.Proofs.Ythlaohiomepobaa.QFnBeatsOk
open Go.RowKit Go.Proofs.YthlaohiomepobaaW.PrintWords Go.Proofs.YthlaohiomepobaaW.PrintLast Go.Proofs.YthlaohiomepobaaW.PrintMore
attribute [local go_sem] max2_int min2_int max_two min_two max_three min_three max_four min_four   -- for this text's walks alone
set_option linter.unusedVariables false
set_option linter.unusedSimpArgs false



def errW : Option Int → Value
  | none => .nilIface
  | some c => .iface 0 (.int .i64 c)
theorem errW_none : errW none = .nilIface := rfl
theorem errW_some (c : Int) : errW (some c) = .iface 0 (.int .i64 c) := rfl

theorem info3 : (Try.prog.info? 3).map (fun i => (i.zero, i.size, i.bytes)) = some (some (.int .i64 0), 1, 8) := by kernel_rfl
theorem info5 : (Try.prog.info? 5).map (fun i => (i.zero, i.size, i.bytes)) = some (some (.int .u8 0), 1, 1) := by kernel_rfl
-- the values' own types

end Go.Proofs.Ythlaohiomepobaa.QFnBeatsOk
