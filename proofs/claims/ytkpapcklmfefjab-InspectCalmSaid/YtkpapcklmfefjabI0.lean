/- Written by wip/prune.sh: contracts of Go functions of the seat Ytkpapcklmfefjab, each walked over the translation: a call returns what the plain function beside it says, and leaves all older memory as it was. A condition: the plain function answers 'some'. -/
import Derived.Test.YtkpapcklmfefjabProg
import Derived.Test.YtkpapcklmfefjabMine
import Derived.Below
import Derived.Deep.Draws
import Derived.Deep.AppendLies
import Derived.Maps.AppendAt
import Derived.OwnWalk
import Derived.Laws.BytesArg
import Derived.Laws.MakeOwn
import Derived.Laws.OwnMore
import Derived.Deep.OwnRows
import Derived.Tactics
import Derived.Lib.ConvBytes
import Derived.Laws.Slices
import Derived.WalkKit
import Derived.KernelRfl
import Derived.RowKit3
import Derived.Deep.LoopGhost
import Derived.Deep.QuietTactic
import Derived.BigQuiet
import Derived.WideLaws
import Derived.Deep.DeepCutAuto
import Derived.Deep.CutBlock
import Derived.Deep.RegionHeld3
import Derived.Laws.Rows
import Derived.Lib.AppendStr
import Derived.ArgAppend
import Derived.Laws.IdiomCopy
import Derived.OrdersHeld
import Derived.Laws.BitsLemmas
import Derived.RowKit
import Derived.Test.YtkpapcklmfefjabWWords
import Derived.Test.YtkpapcklmfefjabWLast
import Derived.Test.YtkpapcklmfefjabWTab
import Derived.Test.YtkpapcklmfefjabWFour
import Derived.Test.YtkpapcklmfefjabWQPut
import Derived.Test.YtkpapcklmfefjabWApart
import Derived.Test.YtkpapcklmfefjabWArr
import Derived.Test.YtkpapcklmfefjabWZeros
import Derived.Test.YtkpapcklmfefjabWFoot
import Derived.Test.YtkpapcklmfefjabWKept
import Derived.Test.YtkpapcklmfefjabWShare
import Derived.Test.YtkpapcklmfefjabWN
import Derived.Test.YtkpapcklmfefjabWFootNe
import Derived.Test.YtkpapcklmfefjabWAt
import Derived.Test.YtkpapcklmfefjabWEqStruct
import Derived.Test.YtkpapcklmfefjabWRepsOne
import Derived.Test.YtkpapcklmfefjabWInv
import Derived.Test.YtkpapcklmfefjabWInvWords
import Derived.Test.YtkpapcklmfefjabWGuard
import Derived.Test.YtkpapcklmfefjabWNEv
import Derived.Test.YtkpapcklmfefjabWMore
namespace Go.Proofs.Ytkpapcklmfefjab.I
open Go.RowKit Go.Proofs.YtkpapcklmfefjabW.PrintWords Go.Proofs.YtkpapcklmfefjabW.PrintLast Go.Proofs.YtkpapcklmfefjabW.PrintMore
attribute [local go_sem high] Go.Proofs.Ytkpapcklmfefjab.Mine.cell_again
attribute [local go_sem] max2_int min2_int max_two min_two max_three min_three max_four min_four   -- for this text's walks alone
set_option linter.unusedVariables false
set_option linter.unusedSimpArgs false



def errW : Option Int → Value
  | none => .nilIface
  | some c => .iface 0 (.int .i64 c)
theorem errW_none : errW none = .nilIface := rfl
theorem errW_some (c : Int) : errW (some c) = .iface 0 (.int .i64 c) := rfl

theorem info3 : (Try.prog.info? 3).map (fun i => (i.zero, i.size, i.bytes)) = some (some (.int .i64 0), 1, 8) := by kernel_rfl
theorem info4 : (Try.prog.info? 4).map (fun i => (i.zero, i.size, i.bytes)) = some (some (.bool false), 1, 1) := by kernel_rfl
-- the values' own types

end Go.Proofs.Ytkpapcklmfefjab.I
