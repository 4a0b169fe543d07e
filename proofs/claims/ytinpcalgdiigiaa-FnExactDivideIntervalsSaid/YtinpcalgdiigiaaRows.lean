/-
  No cell of these rows narrows 'for every input' (looked for: loops, veiled, ifaces, maps, wideKeys, modest, calm, conditions, laid).
  DERIVED. THE GIVEN ROWS OF THIS SEAT. 12 by the template 'for every input the law returns true; each argument reads behind the call as it read before'; 0 by the template 'total and deterministic' (their statements: YtinpcalgdiigiaaTotals.lean).
  GIVEN WITH THE SEED: the statements are not yours to turn. If you find one false, say at which input.
  Laid BY PROGRAM, IN A SANDBOX (cutbox-rows.mjs): the forced cells as the released guide's own fill.sh prints them over the translation 0f0f20a3f52f605f… (all of the seat's roots in one cut). By AI agents, Wed Nov 11 2026. No macro, syntax, notation, axiom, sorry.
-/
import Derived.Test.YtinpcalgdiigiaaChecked
import GoSem.Claim
import GoSem.ClaimJoined
import GoSem.ClaimMapViews
import Derived.JoinedTies
import Derived.KernelRfl
namespace Go.Proofs.Ytinpcalgdiigiaa
/- THE CELL 'sum', in the pinned program and in every row, IS THE sha256 OF THE DUMP (.gsa) THAT YtinpcalgdiigiaaProg.lean LOADS. Nothing in Lean hashes anything: it is a label: what it is worth is what the hold of that sum in a sandbox is worth. -/
noncomputable def Try.pinned : Pinned := { name := "ytinpcalgdiigiaa", sum := "0f0f20a3f52f605f3600bae868ef1fe7d1ebf0f07322c3ce89688c76843b21cc", checked := Try.checked }
namespace Rows
def none {H : Type} : Left H := { results := [], args := [] }

/-- 'laws.FnExactIsInterval': WHATEVER THE INPUT: true; the input reads as it did. -/
def fnExactIsIntervalSpec : ChangeSpec := { name := "fnExactIsInterval", fn := fun _ => fun
  | [d] => { results := [.lit (.bool true)], args := [d] }
  | _ => none }
def fnExactIsIntervalRow : OpenClaim := { program := "ytinpcalgdiigiaa", sum := "0f0f20a3f52f605f3600bae868ef1fe7d1ebf0f07322c3ce89688c76843b21cc", func := "loop.example/g01009/laws.FnExactIsInterval", spec := "fnExactIsInterval", apart := false }
def FnExactIsIntervalSaid : Prop := fnExactIsIntervalRow.holds Try.pinned (OpenSpec.ofChange fnExactIsIntervalSpec)

/-- ITS FALSE NEIGHBOUR: 'it returns false'. Refute it at one input. -/
def fnExactIsIntervalWrong : ChangeSpec := { name := "fnExactIsInterval", fn := fun _ => fun
  | [d] => { results := [.lit (.bool false)], args := [d] }
  | _ => none }
def FnExactIsIntervalWrongFalsely : Prop := fnExactIsIntervalRow.holds Try.pinned (OpenSpec.ofChange fnExactIsIntervalWrong)

/-- 'laws.FnExactIsWithin': WHATEVER THE INPUT: true; the input reads as it did. -/
def fnExactIsWithinSpec : ChangeSpec := { name := "fnExactIsWithin", fn := fun _ => fun
  | [d1, d2] => { results := [.lit (.bool true)], args := [d1, d2] }
  | _ => none }
def fnExactIsWithinRow : OpenClaim := { program := "ytinpcalgdiigiaa", sum := "0f0f20a3f52f605f3600bae868ef1fe7d1ebf0f07322c3ce89688c76843b21cc", func := "loop.example/g01009/laws.FnExactIsWithin", spec := "fnExactIsWithin", apart := false }
def FnExactIsWithinSaid : Prop := fnExactIsWithinRow.holds Try.pinned (OpenSpec.ofChange fnExactIsWithinSpec)

/-- ITS FALSE NEIGHBOUR: 'it returns false'. Refute it at one input. -/
def fnExactIsWithinWrong : ChangeSpec := { name := "fnExactIsWithin", fn := fun _ => fun
  | [d1, d2] => { results := [.lit (.bool false)], args := [d1, d2] }
  | _ => none }
def FnExactIsWithinWrongFalsely : Prop := fnExactIsWithinRow.holds Try.pinned (OpenSpec.ofChange fnExactIsWithinWrong)

/-- 'laws.FnExactSignOf': WHATEVER THE INPUT: true; the input reads as it did. -/
def fnExactSignOfSpec : ChangeSpec := { name := "fnExactSignOf", fn := fun _ => fun
  | [d] => { results := [.lit (.bool true)], args := [d] }
  | _ => none }
def fnExactSignOfRow : OpenClaim := { program := "ytinpcalgdiigiaa", sum := "0f0f20a3f52f605f3600bae868ef1fe7d1ebf0f07322c3ce89688c76843b21cc", func := "loop.example/g01009/laws.FnExactSignOf", spec := "fnExactSignOf", apart := false }
def FnExactSignOfSaid : Prop := fnExactSignOfRow.holds Try.pinned (OpenSpec.ofChange fnExactSignOfSpec)

/-- ITS FALSE NEIGHBOUR: 'it returns false'. Refute it at one input. -/
def fnExactSignOfWrong : ChangeSpec := { name := "fnExactSignOf", fn := fun _ => fun
  | [d] => { results := [.lit (.bool false)], args := [d] }
  | _ => none }
def FnExactSignOfWrongFalsely : Prop := fnExactSignOfRow.holds Try.pinned (OpenSpec.ofChange fnExactSignOfWrong)

/-- 'laws.FnExactHullOf': WHATEVER THE INPUT: true; the input reads as it did. -/
def fnExactHullOfSpec : ChangeSpec := { name := "fnExactHullOf", fn := fun _ => fun
  | [d1, d2] => { results := [.lit (.bool true)], args := [d1, d2] }
  | _ => none }
def fnExactHullOfRow : OpenClaim := { program := "ytinpcalgdiigiaa", sum := "0f0f20a3f52f605f3600bae868ef1fe7d1ebf0f07322c3ce89688c76843b21cc", func := "loop.example/g01009/laws.FnExactHullOf", spec := "fnExactHullOf", apart := false }
def FnExactHullOfSaid : Prop := fnExactHullOfRow.holds Try.pinned (OpenSpec.ofChange fnExactHullOfSpec)

/-- ITS FALSE NEIGHBOUR: 'it returns false'. Refute it at one input. -/
def fnExactHullOfWrong : ChangeSpec := { name := "fnExactHullOf", fn := fun _ => fun
  | [d1, d2] => { results := [.lit (.bool false)], args := [d1, d2] }
  | _ => none }
def FnExactHullOfWrongFalsely : Prop := fnExactHullOfRow.holds Try.pinned (OpenSpec.ofChange fnExactHullOfWrong)

/-- 'laws.FnExactCommonPart': WHATEVER THE INPUT: true; the input reads as it did. -/
def fnExactCommonPartSpec : ChangeSpec := { name := "fnExactCommonPart", fn := fun _ => fun
  | [d1, d2] => { results := [.lit (.bool true)], args := [d1, d2] }
  | _ => none }
def fnExactCommonPartRow : OpenClaim := { program := "ytinpcalgdiigiaa", sum := "0f0f20a3f52f605f3600bae868ef1fe7d1ebf0f07322c3ce89688c76843b21cc", func := "loop.example/g01009/laws.FnExactCommonPart", spec := "fnExactCommonPart", apart := false }
def FnExactCommonPartSaid : Prop := fnExactCommonPartRow.holds Try.pinned (OpenSpec.ofChange fnExactCommonPartSpec)

/-- ITS FALSE NEIGHBOUR: 'it returns false'. Refute it at one input. -/
def fnExactCommonPartWrong : ChangeSpec := { name := "fnExactCommonPart", fn := fun _ => fun
  | [d1, d2] => { results := [.lit (.bool false)], args := [d1, d2] }
  | _ => none }
def FnExactCommonPartWrongFalsely : Prop := fnExactCommonPartRow.holds Try.pinned (OpenSpec.ofChange fnExactCommonPartWrong)

/-- 'laws.FnExactRoundOut': WHATEVER THE INPUT: true; the input reads as it did. -/
def fnExactRoundOutSpec : ChangeSpec := { name := "fnExactRoundOut", fn := fun _ => fun
  | [d1, d2] => { results := [.lit (.bool true)], args := [d1, d2] }
  | _ => none }
def fnExactRoundOutRow : OpenClaim := { program := "ytinpcalgdiigiaa", sum := "0f0f20a3f52f605f3600bae868ef1fe7d1ebf0f07322c3ce89688c76843b21cc", func := "loop.example/g01009/laws.FnExactRoundOut", spec := "fnExactRoundOut", apart := false }
def FnExactRoundOutSaid : Prop := fnExactRoundOutRow.holds Try.pinned (OpenSpec.ofChange fnExactRoundOutSpec)

/-- ITS FALSE NEIGHBOUR: 'it returns false'. Refute it at one input. -/
def fnExactRoundOutWrong : ChangeSpec := { name := "fnExactRoundOut", fn := fun _ => fun
  | [d1, d2] => { results := [.lit (.bool false)], args := [d1, d2] }
  | _ => none }
def FnExactRoundOutWrongFalsely : Prop := fnExactRoundOutRow.holds Try.pinned (OpenSpec.ofChange fnExactRoundOutWrong)

/-- 'laws.FnExactWidthOf': WHATEVER THE INPUT: true; the input reads as it did. -/
def fnExactWidthOfSpec : ChangeSpec := { name := "fnExactWidthOf", fn := fun _ => fun
  | [d] => { results := [.lit (.bool true)], args := [d] }
  | _ => none }
def fnExactWidthOfRow : OpenClaim := { program := "ytinpcalgdiigiaa", sum := "0f0f20a3f52f605f3600bae868ef1fe7d1ebf0f07322c3ce89688c76843b21cc", func := "loop.example/g01009/laws.FnExactWidthOf", spec := "fnExactWidthOf", inPlace := ["math/bits.Add64", "math/bits.Sub64"], apart := false }
def FnExactWidthOfSaid : Prop := fnExactWidthOfRow.holds Try.pinned (OpenSpec.ofChange fnExactWidthOfSpec)

/-- ITS FALSE NEIGHBOUR: 'it returns false'. Refute it at one input. -/
def fnExactWidthOfWrong : ChangeSpec := { name := "fnExactWidthOf", fn := fun _ => fun
  | [d] => { results := [.lit (.bool false)], args := [d] }
  | _ => none }
def FnExactWidthOfWrongFalsely : Prop := fnExactWidthOfRow.holds Try.pinned (OpenSpec.ofChange fnExactWidthOfWrong)

/-- 'laws.FnExactAddIntervals': WHATEVER THE INPUT: true; the input reads as it did. -/
def fnExactAddIntervalsSpec : ChangeSpec := { name := "fnExactAddIntervals", fn := fun _ => fun
  | [d1, d2] => { results := [.lit (.bool true)], args := [d1, d2] }
  | _ => none }
def fnExactAddIntervalsRow : OpenClaim := { program := "ytinpcalgdiigiaa", sum := "0f0f20a3f52f605f3600bae868ef1fe7d1ebf0f07322c3ce89688c76843b21cc", func := "loop.example/g01009/laws.FnExactAddIntervals", spec := "fnExactAddIntervals", inPlace := ["math/bits.Add64", "math/bits.Sub64"], apart := false }
def FnExactAddIntervalsSaid : Prop := fnExactAddIntervalsRow.holds Try.pinned (OpenSpec.ofChange fnExactAddIntervalsSpec)

/-- ITS FALSE NEIGHBOUR: 'it returns false'. Refute it at one input. -/
def fnExactAddIntervalsWrong : ChangeSpec := { name := "fnExactAddIntervals", fn := fun _ => fun
  | [d1, d2] => { results := [.lit (.bool false)], args := [d1, d2] }
  | _ => none }
def FnExactAddIntervalsWrongFalsely : Prop := fnExactAddIntervalsRow.holds Try.pinned (OpenSpec.ofChange fnExactAddIntervalsWrong)

/-- 'laws.FnExactSubtractIntervals': WHATEVER THE INPUT: true; the input reads as it did. -/
def fnExactSubtractIntervalsSpec : ChangeSpec := { name := "fnExactSubtractIntervals", fn := fun _ => fun
  | [d1, d2] => { results := [.lit (.bool true)], args := [d1, d2] }
  | _ => none }
def fnExactSubtractIntervalsRow : OpenClaim := { program := "ytinpcalgdiigiaa", sum := "0f0f20a3f52f605f3600bae868ef1fe7d1ebf0f07322c3ce89688c76843b21cc", func := "loop.example/g01009/laws.FnExactSubtractIntervals", spec := "fnExactSubtractIntervals", inPlace := ["math/bits.Add64", "math/bits.Sub64"], apart := false }
def FnExactSubtractIntervalsSaid : Prop := fnExactSubtractIntervalsRow.holds Try.pinned (OpenSpec.ofChange fnExactSubtractIntervalsSpec)

/-- ITS FALSE NEIGHBOUR: 'it returns false'. Refute it at one input. -/
def fnExactSubtractIntervalsWrong : ChangeSpec := { name := "fnExactSubtractIntervals", fn := fun _ => fun
  | [d1, d2] => { results := [.lit (.bool false)], args := [d1, d2] }
  | _ => none }
def FnExactSubtractIntervalsWrongFalsely : Prop := fnExactSubtractIntervalsRow.holds Try.pinned (OpenSpec.ofChange fnExactSubtractIntervalsWrong)

/-- 'laws.FnExactMultiplyIntervals': WHATEVER THE INPUT: true; the input reads as it did. -/
def fnExactMultiplyIntervalsSpec : ChangeSpec := { name := "fnExactMultiplyIntervals", fn := fun _ => fun
  | [d1, d2] => { results := [.lit (.bool true)], args := [d1, d2] }
  | _ => none }
def fnExactMultiplyIntervalsRow : OpenClaim := { program := "ytinpcalgdiigiaa", sum := "0f0f20a3f52f605f3600bae868ef1fe7d1ebf0f07322c3ce89688c76843b21cc", func := "loop.example/g01009/laws.FnExactMultiplyIntervals", spec := "fnExactMultiplyIntervals", apart := false }
def FnExactMultiplyIntervalsSaid : Prop := fnExactMultiplyIntervalsRow.holds Try.pinned (OpenSpec.ofChange fnExactMultiplyIntervalsSpec)

/-- ITS FALSE NEIGHBOUR: 'it returns false'. Refute it at one input. -/
def fnExactMultiplyIntervalsWrong : ChangeSpec := { name := "fnExactMultiplyIntervals", fn := fun _ => fun
  | [d1, d2] => { results := [.lit (.bool false)], args := [d1, d2] }
  | _ => none }
def FnExactMultiplyIntervalsWrongFalsely : Prop := fnExactMultiplyIntervalsRow.holds Try.pinned (OpenSpec.ofChange fnExactMultiplyIntervalsWrong)

/-- 'laws.FnExactPowerOfInterval': WHATEVER THE INPUT: true; the input reads as it did. -/
def fnExactPowerOfIntervalSpec : ChangeSpec := { name := "fnExactPowerOfInterval", fn := fun _ => fun
  | [d1, d2] => { results := [.lit (.bool true)], args := [d1, d2] }
  | _ => none }
def fnExactPowerOfIntervalRow : OpenClaim := { program := "ytinpcalgdiigiaa", sum := "0f0f20a3f52f605f3600bae868ef1fe7d1ebf0f07322c3ce89688c76843b21cc", func := "loop.example/g01009/laws.FnExactPowerOfInterval", spec := "fnExactPowerOfInterval", apart := false }
def FnExactPowerOfIntervalSaid : Prop := fnExactPowerOfIntervalRow.holds Try.pinned (OpenSpec.ofChange fnExactPowerOfIntervalSpec)

/-- ITS FALSE NEIGHBOUR: 'it returns false'. Refute it at one input. -/
def fnExactPowerOfIntervalWrong : ChangeSpec := { name := "fnExactPowerOfInterval", fn := fun _ => fun
  | [d1, d2] => { results := [.lit (.bool false)], args := [d1, d2] }
  | _ => none }
def FnExactPowerOfIntervalWrongFalsely : Prop := fnExactPowerOfIntervalRow.holds Try.pinned (OpenSpec.ofChange fnExactPowerOfIntervalWrong)

/-- 'laws.FnExactDivideIntervals': WHATEVER THE INPUT: true; the input reads as it did. -/
def fnExactDivideIntervalsSpec : ChangeSpec := { name := "fnExactDivideIntervals", fn := fun _ => fun
  | [d1, d2] => { results := [.lit (.bool true)], args := [d1, d2] }
  | _ => none }
def fnExactDivideIntervalsRow : OpenClaim := { program := "ytinpcalgdiigiaa", sum := "0f0f20a3f52f605f3600bae868ef1fe7d1ebf0f07322c3ce89688c76843b21cc", func := "loop.example/g01009/laws.FnExactDivideIntervals", spec := "fnExactDivideIntervals", inPlace := ["math/bits.Add64", "math/bits.Sub64"], named := ["math/bits.divideError", "math/bits.overflowError"], apart := false }
def FnExactDivideIntervalsSaid : Prop := fnExactDivideIntervalsRow.holds Try.pinned (OpenSpec.ofChange fnExactDivideIntervalsSpec)

/-- ITS FALSE NEIGHBOUR: 'it returns false'. Refute it at one input. -/
def fnExactDivideIntervalsWrong : ChangeSpec := { name := "fnExactDivideIntervals", fn := fun _ => fun
  | [d1, d2] => { results := [.lit (.bool false)], args := [d1, d2] }
  | _ => none }
def FnExactDivideIntervalsWrongFalsely : Prop := fnExactDivideIntervalsRow.holds Try.pinned (OpenSpec.ofChange fnExactDivideIntervalsWrong)

/- THE SECOND FORM. 'bulk': how many values and letters a reading holds, each counted each time it is reached (what is shared counts as often as it is met; a slice's spare places count too). A statement '..UptoSaid' is the law's where the arguments, and the package variables that the reading takes, are together of bulk at most 1048576: NARROWER than '..Said'. Prove '..Said' where nothing that the law and all that it calls make is longer than what came in: it says more and counts as full. Else prove '..UptoSaid'. A law counts once. -/
mutual
def uptoBulk {H : Type} : DataW H → Nat
  | .lit (.string bytes) => bytes.length + 1
  | .lit _ => 1
  | .nil => 1
  | .ptr d => uptoBulk d + 1
  | .slice elems spare => uptoBulkAll elems + uptoBulkAll spare + 1
  | .agg parts => uptoBulkAll parts + 1
  | .iface _ d => uptoBulk d + 1
  | .map entries => uptoBulkEntries entries + 1
  | .held _ => 1
def uptoBulkAll {H : Type} : List (DataW H) → Nat
  | [] => 0
  | d :: r => uptoBulk d + uptoBulkAll r
def uptoBulkEntries {H : Type} : List (Lit × DataW H) → Nat
  | [] => 0
  | x :: r => uptoBulkEntry x + uptoBulkEntries r
def uptoBulkEntry {H : Type} : Lit × DataW H → Nat
  | (.string bytes, d) => bytes.length + uptoBulk d + 1
  | (_, d) => uptoBulk d + 1
 end
def uptoSmall : (H : Type) → List (DataW H) → Bool := fun _ ds => decide (uptoBulkAll ds ≤ 1048576)
def OpenSpec.upto (s : _root_.Go.ChangeSpec) : _root_.Go.OpenSpec := { _root_.Go.OpenSpec.ofChange s with cond := some uptoSmall }

/-- 'laws.FnExactIsInterval', WHERE WHAT IT READS IS OF BULK AT MOST 1048576: true; the input reads as it did. -/
def fnExactIsIntervalUptoRow : OpenClaim := { program := "ytinpcalgdiigiaa", sum := "0f0f20a3f52f605f3600bae868ef1fe7d1ebf0f07322c3ce89688c76843b21cc", func := "loop.example/g01009/laws.FnExactIsInterval", spec := "fnExactIsInterval", apart := false, narrowed := true }
def FnExactIsIntervalUptoSaid : Prop := fnExactIsIntervalUptoRow.holds Try.pinned (OpenSpec.upto fnExactIsIntervalSpec)

/-- 'laws.FnExactIsWithin', WHERE WHAT IT READS IS OF BULK AT MOST 1048576: true; the input reads as it did. -/
def fnExactIsWithinUptoRow : OpenClaim := { program := "ytinpcalgdiigiaa", sum := "0f0f20a3f52f605f3600bae868ef1fe7d1ebf0f07322c3ce89688c76843b21cc", func := "loop.example/g01009/laws.FnExactIsWithin", spec := "fnExactIsWithin", apart := false, narrowed := true }
def FnExactIsWithinUptoSaid : Prop := fnExactIsWithinUptoRow.holds Try.pinned (OpenSpec.upto fnExactIsWithinSpec)

/-- 'laws.FnExactSignOf', WHERE WHAT IT READS IS OF BULK AT MOST 1048576: true; the input reads as it did. -/
def fnExactSignOfUptoRow : OpenClaim := { program := "ytinpcalgdiigiaa", sum := "0f0f20a3f52f605f3600bae868ef1fe7d1ebf0f07322c3ce89688c76843b21cc", func := "loop.example/g01009/laws.FnExactSignOf", spec := "fnExactSignOf", apart := false, narrowed := true }
def FnExactSignOfUptoSaid : Prop := fnExactSignOfUptoRow.holds Try.pinned (OpenSpec.upto fnExactSignOfSpec)

/-- 'laws.FnExactHullOf', WHERE WHAT IT READS IS OF BULK AT MOST 1048576: true; the input reads as it did. -/
def fnExactHullOfUptoRow : OpenClaim := { program := "ytinpcalgdiigiaa", sum := "0f0f20a3f52f605f3600bae868ef1fe7d1ebf0f07322c3ce89688c76843b21cc", func := "loop.example/g01009/laws.FnExactHullOf", spec := "fnExactHullOf", apart := false, narrowed := true }
def FnExactHullOfUptoSaid : Prop := fnExactHullOfUptoRow.holds Try.pinned (OpenSpec.upto fnExactHullOfSpec)

/-- 'laws.FnExactCommonPart', WHERE WHAT IT READS IS OF BULK AT MOST 1048576: true; the input reads as it did. -/
def fnExactCommonPartUptoRow : OpenClaim := { program := "ytinpcalgdiigiaa", sum := "0f0f20a3f52f605f3600bae868ef1fe7d1ebf0f07322c3ce89688c76843b21cc", func := "loop.example/g01009/laws.FnExactCommonPart", spec := "fnExactCommonPart", apart := false, narrowed := true }
def FnExactCommonPartUptoSaid : Prop := fnExactCommonPartUptoRow.holds Try.pinned (OpenSpec.upto fnExactCommonPartSpec)

/-- 'laws.FnExactRoundOut', WHERE WHAT IT READS IS OF BULK AT MOST 1048576: true; the input reads as it did. -/
def fnExactRoundOutUptoRow : OpenClaim := { program := "ytinpcalgdiigiaa", sum := "0f0f20a3f52f605f3600bae868ef1fe7d1ebf0f07322c3ce89688c76843b21cc", func := "loop.example/g01009/laws.FnExactRoundOut", spec := "fnExactRoundOut", apart := false, narrowed := true }
def FnExactRoundOutUptoSaid : Prop := fnExactRoundOutUptoRow.holds Try.pinned (OpenSpec.upto fnExactRoundOutSpec)

/-- 'laws.FnExactWidthOf', WHERE WHAT IT READS IS OF BULK AT MOST 1048576: true; the input reads as it did. -/
def fnExactWidthOfUptoRow : OpenClaim := { program := "ytinpcalgdiigiaa", sum := "0f0f20a3f52f605f3600bae868ef1fe7d1ebf0f07322c3ce89688c76843b21cc", func := "loop.example/g01009/laws.FnExactWidthOf", spec := "fnExactWidthOf", inPlace := ["math/bits.Add64", "math/bits.Sub64"], apart := false, narrowed := true }
def FnExactWidthOfUptoSaid : Prop := fnExactWidthOfUptoRow.holds Try.pinned (OpenSpec.upto fnExactWidthOfSpec)

/-- 'laws.FnExactAddIntervals', WHERE WHAT IT READS IS OF BULK AT MOST 1048576: true; the input reads as it did. -/
def fnExactAddIntervalsUptoRow : OpenClaim := { program := "ytinpcalgdiigiaa", sum := "0f0f20a3f52f605f3600bae868ef1fe7d1ebf0f07322c3ce89688c76843b21cc", func := "loop.example/g01009/laws.FnExactAddIntervals", spec := "fnExactAddIntervals", inPlace := ["math/bits.Add64", "math/bits.Sub64"], apart := false, narrowed := true }
def FnExactAddIntervalsUptoSaid : Prop := fnExactAddIntervalsUptoRow.holds Try.pinned (OpenSpec.upto fnExactAddIntervalsSpec)

/-- 'laws.FnExactSubtractIntervals', WHERE WHAT IT READS IS OF BULK AT MOST 1048576: true; the input reads as it did. -/
def fnExactSubtractIntervalsUptoRow : OpenClaim := { program := "ytinpcalgdiigiaa", sum := "0f0f20a3f52f605f3600bae868ef1fe7d1ebf0f07322c3ce89688c76843b21cc", func := "loop.example/g01009/laws.FnExactSubtractIntervals", spec := "fnExactSubtractIntervals", inPlace := ["math/bits.Add64", "math/bits.Sub64"], apart := false, narrowed := true }
def FnExactSubtractIntervalsUptoSaid : Prop := fnExactSubtractIntervalsUptoRow.holds Try.pinned (OpenSpec.upto fnExactSubtractIntervalsSpec)

/-- 'laws.FnExactMultiplyIntervals', WHERE WHAT IT READS IS OF BULK AT MOST 1048576: true; the input reads as it did. -/
def fnExactMultiplyIntervalsUptoRow : OpenClaim := { program := "ytinpcalgdiigiaa", sum := "0f0f20a3f52f605f3600bae868ef1fe7d1ebf0f07322c3ce89688c76843b21cc", func := "loop.example/g01009/laws.FnExactMultiplyIntervals", spec := "fnExactMultiplyIntervals", apart := false, narrowed := true }
def FnExactMultiplyIntervalsUptoSaid : Prop := fnExactMultiplyIntervalsUptoRow.holds Try.pinned (OpenSpec.upto fnExactMultiplyIntervalsSpec)

/-- 'laws.FnExactPowerOfInterval', WHERE WHAT IT READS IS OF BULK AT MOST 1048576: true; the input reads as it did. -/
def fnExactPowerOfIntervalUptoRow : OpenClaim := { program := "ytinpcalgdiigiaa", sum := "0f0f20a3f52f605f3600bae868ef1fe7d1ebf0f07322c3ce89688c76843b21cc", func := "loop.example/g01009/laws.FnExactPowerOfInterval", spec := "fnExactPowerOfInterval", apart := false, narrowed := true }
def FnExactPowerOfIntervalUptoSaid : Prop := fnExactPowerOfIntervalUptoRow.holds Try.pinned (OpenSpec.upto fnExactPowerOfIntervalSpec)

/-- 'laws.FnExactDivideIntervals', WHERE WHAT IT READS IS OF BULK AT MOST 1048576: true; the input reads as it did. -/
def fnExactDivideIntervalsUptoRow : OpenClaim := { program := "ytinpcalgdiigiaa", sum := "0f0f20a3f52f605f3600bae868ef1fe7d1ebf0f07322c3ce89688c76843b21cc", func := "loop.example/g01009/laws.FnExactDivideIntervals", spec := "fnExactDivideIntervals", inPlace := ["math/bits.Add64", "math/bits.Sub64"], named := ["math/bits.divideError", "math/bits.overflowError"], apart := false, narrowed := true }
def FnExactDivideIntervalsUptoSaid : Prop := fnExactDivideIntervalsUptoRow.holds Try.pinned (OpenSpec.upto fnExactDivideIntervalsSpec)

end Rows
end Go.Proofs.Ytinpcalgdiigiaa
