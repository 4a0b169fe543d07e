-- Written by a program of this session (wip/mk/drv.py) out of the seat's translation; Lean checks it.
import Derived.Test.YtinpcalgdiigiaaProg
import Derived.Below
import Derived.Deep.Draws
import Derived.Deep.AppendLies
import Derived.Maps.AppendAt
import Derived.OwnWalk
import Derived.Laws.BytesArg
import Derived.Laws.MakeOwn
import Derived.Laws.OwnMore
import Derived.Deep.OwnRows
import Derived.Tactics
import Derived.Lib.ConvBytes
import Derived.Laws.Slices
import Derived.WalkKit
import Derived.KernelRfl
import Derived.RowKit3
import Derived.Deep.LoopGhost
import Derived.Deep.QuietTactic
import Derived.BigQuiet
import Derived.WideLaws
import Derived.Deep.DeepCutAuto
import Derived.Deep.CutBlock
import Derived.Deep.RegionHeld3
import Derived.Laws.Rows
import Derived.Lib.AppendStr
import Derived.ArgAppend
import Derived.Laws.IdiomCopy
import Derived.OrdersHeld
import Derived.Laws.BitsLemmas
import Derived.RowKit
import Derived.Laws.Externs
import Derived.Shelf.Spec.BitsCarry
import Derived.Test.YtinpcalgdiigiaaQSubtractIntervalsWWords
import Derived.Test.YtinpcalgdiigiaaQSubtractIntervalsWLast
import Derived.Test.YtinpcalgdiigiaaQSubtractIntervalsWTab
import Derived.Test.YtinpcalgdiigiaaQSubtractIntervalsWQPut
import Derived.Test.YtinpcalgdiigiaaQSubtractIntervalsWApart
import Derived.Test.YtinpcalgdiigiaaQSubtractIntervalsWFoot
import Derived.Test.YtinpcalgdiigiaaQSubtractIntervalsWKept
import Derived.Test.YtinpcalgdiigiaaQSubtractIntervalsWShare
import Derived.Test.YtinpcalgdiigiaaQSubtractIntervalsWN
import Derived.Laws.StructEq
import Derived.Test.YtinpcalgdiigiaaQSubtractIntervalsWRepsOne
import Derived.Test.YtinpcalgdiigiaaQSubtractIntervalsWInv
import Derived.Test.YtinpcalgdiigiaaQSubtractIntervalsWMore
namespace Go.Proofs.Ytinpcalgdiigiaa.PD
open Go.RowKit Go.Proofs.YtinpcalgdiigiaaW.PrintWords Go.Proofs.YtinpcalgdiigiaaW.PrintLast Go.Proofs.YtinpcalgdiigiaaW.PrintMore
attribute [local go_sem] max2_int min2_int max_two min_two max_three min_three max_four min_four   -- for this text's walks alone
set_option linter.unusedVariables false
set_option linter.unusedSimpArgs false
def errW : Option Int → Value
  | none => .nilIface
  | some c => .iface 0 (.int .i64 c)
theorem errW_none : errW none = .nilIface := rfl
theorem errW_some (c : Int) : errW (some c) = .iface 0 (.int .i64 c) := rfl
-- the values' own types
/-! #### struct type 27 -/
/-- A fact of a block, at a later world. -/
theorem zq1 {P Q : Prop} (h : Aside0 Q) (f : Q → P := by intro h_; (with_reducible repeat (first | refine blk_drewN ?_ _ | refine blk_drew ?_ | refine blk_alloc ?_ _)); exact h_) : P := f h.out
/-- A fact of a block, behind stores elsewhere. -/
theorem zq5 {P Q : Prop} (h : Aside0 Q) (f : Q → P := by intro h_; repeat (first | (with_reducible first | exact h_ | refine blk_drewN ?_ _ | refine blk_drew ?_ | refine blk_alloc ?_ _ | refine blk_far ?_ (Aside0.out (by assumption)) _) | exact h_)) : P := f h.out
/-- A new block is none of the elder ones. -/
theorem zlt {w w1 : World} {g gb : Nat} {o : Obj} (h : Aside0 (w.heap[g]? = some o)) (hg : gb = w1.heap.size) (k : w.heap[g]? = some o → w1.heap[g]? = some o := by intro h_; (with_reducible repeat (first | refine blk_drewN ?_ _ | refine blk_drew ?_ | refine blk_alloc ?_ _)); exact h_) : g ≠ gb := by rw [hg]; exact Nat.ne_of_lt (blk_lt (k h.out))
theorem zgt {w w1 : World} {g gb : Nat} {o : Obj} (h : Aside0 (w.heap[g]? = some o)) (hg : gb = w1.heap.size) (k : w.heap[g]? = some o → w1.heap[g]? = some o := by intro h_; (with_reducible repeat (first | refine blk_drewN ?_ _ | refine blk_drew ?_ | refine blk_alloc ?_ _)); exact h_) : gb ≠ g := by rw [hg]; exact Nat.ne_of_gt (blk_lt (k h.out))
/-- A fact of a block, behind a call. -/
theorem zbb {w w1 w2 : World} {g B : Nat} {o : Obj} (h : Aside0 (w.heap[g]? = some o)) (hb : Below B w1 w2) (hB : B = w1.heap.size := by rfl) (k : w.heap[g]? = some o → w1.heap[g]? = some o := by intro h_; (with_reducible repeat (first | refine blk_drewN ?_ _ | refine blk_drew ?_ | refine blk_alloc ?_ _)); exact h_) : w2.heap[g]? = some o := by subst hB; exact blk_below (k h.out) hb
theorem zc {w : World} {g : Nat} {t : TypeId} {cs : Array Value} (h : Aside0 (w.heap[g]? = some (.cells cs t (0, 0)))) (i : Nat) {v : Value} (e : cs[i]? = some v := by rfl) : w.cell? ⟨g, i, none⟩ = some v := (blk_cell h.out i).trans e
end Go.Proofs.Ytinpcalgdiigiaa.PD
