/- Written by wip/prune.sh: contracts of Go functions of the seat Ytkpapcklmfefjaa, each walked over the translation: a call returns what the plain function beside it says, and leaves all older memory as it was. A condition: the plain function answers 'some'. -/
import Derived.Test.YtkpapcklmfefjaaProg
import Derived.Test.YtkpapcklmfefjaaMine
import Derived.Below
import Derived.Deep.Draws
import Derived.Deep.AppendLies
import Derived.Maps.AppendAt
import Derived.OwnWalk
import Derived.Laws.BytesArg
import Derived.Laws.MakeOwn
import Derived.Laws.OwnMore
import Derived.Deep.OwnRows
import Derived.Tactics
import Derived.Lib.ConvBytes
import Derived.Laws.Slices
import Derived.WalkKit
import Derived.KernelRfl
import Derived.RowKit3
import Derived.Deep.LoopGhost
import Derived.Deep.QuietTactic
import Derived.BigQuiet
import Derived.WideLaws
import Derived.Deep.DeepCutAuto
import Derived.Deep.CutBlock
import Derived.Deep.RegionHeld3
import Derived.Laws.Rows
import Derived.Lib.AppendStr
import Derived.ArgAppend
import Derived.Laws.IdiomCopy
import Derived.OrdersHeld
import Derived.Laws.BitsLemmas
import Derived.RowKit
import Derived.Test.YtkpapcklmfefjaaWWords
import Derived.Test.YtkpapcklmfefjaaWLast
import Derived.Test.YtkpapcklmfefjaaWTab
import Derived.Test.YtkpapcklmfefjaaWFour
import Derived.Test.YtkpapcklmfefjaaWQPut
import Derived.Test.YtkpapcklmfefjaaWApart
import Derived.Test.YtkpapcklmfefjaaWArr
import Derived.Test.YtkpapcklmfefjaaWZeros
import Derived.Test.YtkpapcklmfefjaaWFoot
import Derived.Test.YtkpapcklmfefjaaWKept
import Derived.Test.YtkpapcklmfefjaaWShare
import Derived.Test.YtkpapcklmfefjaaWN
import Derived.Test.YtkpapcklmfefjaaWFootNe
import Derived.Test.YtkpapcklmfefjaaWAt
import Derived.Test.YtkpapcklmfefjaaWEqStruct
import Derived.Test.YtkpapcklmfefjaaWRepsOne
import Derived.Test.YtkpapcklmfefjaaWInv
import Derived.Test.YtkpapcklmfefjaaWInvWords
import Derived.Test.YtkpapcklmfefjaaWGuard
import Derived.Test.YtkpapcklmfefjaaWNEv
import Derived.Test.YtkpapcklmfefjaaWMore
namespace Go.Proofs.Ytkpapcklmfefjaa.I
open Go.RowKit Go.Proofs.YtkpapcklmfefjaaW.PrintWords Go.Proofs.YtkpapcklmfefjaaW.PrintLast Go.Proofs.YtkpapcklmfefjaaW.PrintMore
attribute [local go_sem high] Go.Proofs.Ytkpapcklmfefjaa.Mine.cell_again
attribute [local go_sem] max2_int min2_int max_two min_two max_three min_three max_four min_four   -- for this text's walks alone
set_option linter.unusedVariables false
set_option linter.unusedSimpArgs false



def errW : Option Int → Value
  | none => .nilIface
  | some c => .iface 0 (.int .i64 c)
theorem errW_none : errW none = .nilIface := rfl
theorem errW_some (c : Int) : errW (some c) = .iface 0 (.int .i64 c) := rfl

theorem info3 : (Try.prog.info? 3).map (fun i => (i.zero, i.size, i.bytes)) = some (some (.int .i64 0), 1, 8) := by kernel_rfl
theorem info4 : (Try.prog.info? 4).map (fun i => (i.zero, i.size, i.bytes)) = some (some (.bool false), 1, 1) := by kernel_rfl
-- the values' own types

end Go.Proofs.Ytkpapcklmfefjaa.I
