-- Written by a program of this session (wip/mk/drv.py) out of the seat's translation; Lean checks it.
import Derived.Test.YthgalpfnfidcdaaProg
import Derived.Below
import Derived.Deep.Draws
import Derived.Deep.AppendLies
import Derived.Maps.AppendAt
import Derived.OwnWalk
import Derived.Laws.BytesArg
import Derived.Laws.MakeOwn
import Derived.Laws.OwnMore
import Derived.Deep.OwnRows
import Derived.Tactics
import Derived.Lib.ConvBytes
import Derived.Laws.Slices
import Derived.WalkKit
import Derived.KernelRfl
import Derived.RowKit3
import Derived.Deep.LoopGhost
import Derived.Deep.QuietTactic
import Derived.BigQuiet
import Derived.WideLaws
import Derived.Deep.DeepCutAuto
import Derived.Deep.CutBlock
import Derived.Deep.RegionHeld3
import Derived.Laws.Rows
import Derived.Lib.AppendStr
import Derived.ArgAppend
import Derived.Laws.IdiomCopy
import Derived.OrdersHeld
import Derived.Laws.BitsLemmas
import Derived.RowKit
import Derived.Laws.Externs
import Derived.Shelf.Spec.BitsCarry
import Derived.Test.YthgalpfnfidcdaaQDivideDownWWords
import Derived.Test.YthgalpfnfidcdaaQDivideDownWLast
import Derived.Test.YthgalpfnfidcdaaQDivideDownWTab
import Derived.Test.YthgalpfnfidcdaaQDivideDownWQPut
import Derived.Test.YthgalpfnfidcdaaQDivideDownWApart
import Derived.Test.YthgalpfnfidcdaaQDivideDownWFoot
import Derived.Test.YthgalpfnfidcdaaQDivideDownWKept
import Derived.Test.YthgalpfnfidcdaaQDivideDownWShare
import Derived.Test.YthgalpfnfidcdaaQDivideDownWN
import Derived.Laws.StructEq
import Derived.Test.YthgalpfnfidcdaaQDivideDownWRepsOne
import Derived.Test.YthgalpfnfidcdaaQDivideDownWInv
import Derived.Test.YthgalpfnfidcdaaQDivideDownWGuard
import Derived.Test.YthgalpfnfidcdaaQDivideDownWMore
namespace Go.Proofs.Ythgalpfnfidcdaa.PD
open Go.RowKit Go.Proofs.YthgalpfnfidcdaaW.PrintWords Go.Proofs.YthgalpfnfidcdaaW.PrintLast Go.Proofs.YthgalpfnfidcdaaW.PrintMore
attribute [local go_sem] max2_int min2_int max_two min_two max_three min_three max_four min_four   -- for this text's walks alone
set_option linter.unusedVariables false
set_option linter.unusedSimpArgs false
def errW : Option Int → Value
  | none => .nilIface
  | some c => .iface 0 (.int .i64 c)
theorem errW_none : errW none = .nilIface := rfl
theorem errW_some (c : Int) : errW (some c) = .iface 0 (.int .i64 c) := rfl
-- the values' own types
end Go.Proofs.Ythgalpfnfidcdaa.PD
