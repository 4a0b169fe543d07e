/-
  No cell of these rows narrows 'for every input' (looked for: loops, veiled, ifaces, maps, wideKeys, modest, calm, conditions, laid).
  DERIVED. THE GIVEN ROWS OF THIS SEAT. 12 by the template 'for every input the law returns true; each argument reads behind the call as it read before'; 0 by the template 'total and deterministic' (their statements: YthgalpfnfidcdaaTotals.lean).
  GIVEN WITH THE SEED: the statements are not yours to turn. If you find one false, say at which input.
  Laid BY PROGRAM, IN A SANDBOX (cutbox-rows.mjs): the forced cells as the released guide's own fill.sh prints them over the translation 37d662df409eab47… (all of the seat's roots in one cut). By AI agents, Wed Nov 11 2026. No macro, syntax, notation, axiom, sorry.
-/
import Derived.Test.YthgalpfnfidcdaaChecked
import GoSem.Claim
import GoSem.ClaimJoined
import GoSem.ClaimMapViews
import Derived.JoinedTies
import Derived.KernelRfl
namespace Go.Proofs.Ythgalpfnfidcdaa
/- THE CELL 'sum', in the pinned program and in every row, IS THE sha256 OF THE DUMP (.gsa) THAT YthgalpfnfidcdaaProg.lean LOADS. Nothing in Lean hashes anything: it is a label: what it is worth is what the hold of that sum in a sandbox is worth. -/
noncomputable def Try.pinned : Pinned := { name := "ythgalpfnfidcdaa", sum := "37d662df409eab47e0cd1b69786b92fca84871ebfa54fb769349ddc5aa66dd3e", checked := Try.checked }
namespace Rows
def none {H : Type} : Left H := { results := [], args := [] }

/-- 'laws.FnExactConstants': WHATEVER THE INPUT: true; the input reads as it did. -/
def fnExactConstantsSpec : ChangeSpec := { name := "fnExactConstants", fn := fun _ => fun
  | [] => { results := [.lit (.bool true)], args := [] }
  | _ => none }
def fnExactConstantsRow : OpenClaim := { program := "ythgalpfnfidcdaa", sum := "37d662df409eab47e0cd1b69786b92fca84871ebfa54fb769349ddc5aa66dd3e", func := "loop.example/g01009/laws.FnExactConstants", spec := "fnExactConstants", apart := false }
def FnExactConstantsSaid : Prop := fnExactConstantsRow.holds Try.pinned (OpenSpec.ofChange fnExactConstantsSpec)

/-- ITS FALSE NEIGHBOUR: 'it returns false'. Refute it at one input. -/
def fnExactConstantsWrong : ChangeSpec := { name := "fnExactConstants", fn := fun _ => fun
  | [] => { results := [.lit (.bool false)], args := [] }
  | _ => none }
def FnExactConstantsWrongFalsely : Prop := fnExactConstantsRow.holds Try.pinned (OpenSpec.ofChange fnExactConstantsWrong)

/-- 'laws.FnExactIsDyadic': WHATEVER THE INPUT: true; the input reads as it did. -/
def fnExactIsDyadicSpec : ChangeSpec := { name := "fnExactIsDyadic", fn := fun _ => fun
  | [d] => { results := [.lit (.bool true)], args := [d] }
  | _ => none }
def fnExactIsDyadicRow : OpenClaim := { program := "ythgalpfnfidcdaa", sum := "37d662df409eab47e0cd1b69786b92fca84871ebfa54fb769349ddc5aa66dd3e", func := "loop.example/g01009/laws.FnExactIsDyadic", spec := "fnExactIsDyadic", apart := false }
def FnExactIsDyadicSaid : Prop := fnExactIsDyadicRow.holds Try.pinned (OpenSpec.ofChange fnExactIsDyadicSpec)

/-- ITS FALSE NEIGHBOUR: 'it returns false'. Refute it at one input. -/
def fnExactIsDyadicWrong : ChangeSpec := { name := "fnExactIsDyadic", fn := fun _ => fun
  | [d] => { results := [.lit (.bool false)], args := [d] }
  | _ => none }
def FnExactIsDyadicWrongFalsely : Prop := fnExactIsDyadicRow.holds Try.pinned (OpenSpec.ofChange fnExactIsDyadicWrong)

/-- 'laws.FnExactDyadicOf': WHATEVER THE INPUT: true; the input reads as it did. -/
def fnExactDyadicOfSpec : ChangeSpec := { name := "fnExactDyadicOf", fn := fun _ => fun
  | [d1, d2] => { results := [.lit (.bool true)], args := [d1, d2] }
  | _ => none }
def fnExactDyadicOfRow : OpenClaim := { program := "ythgalpfnfidcdaa", sum := "37d662df409eab47e0cd1b69786b92fca84871ebfa54fb769349ddc5aa66dd3e", func := "loop.example/g01009/laws.FnExactDyadicOf", spec := "fnExactDyadicOf", apart := false }
def FnExactDyadicOfSaid : Prop := fnExactDyadicOfRow.holds Try.pinned (OpenSpec.ofChange fnExactDyadicOfSpec)

/-- ITS FALSE NEIGHBOUR: 'it returns false'. Refute it at one input. -/
def fnExactDyadicOfWrong : ChangeSpec := { name := "fnExactDyadicOf", fn := fun _ => fun
  | [d1, d2] => { results := [.lit (.bool false)], args := [d1, d2] }
  | _ => none }
def FnExactDyadicOfWrongFalsely : Prop := fnExactDyadicOfRow.holds Try.pinned (OpenSpec.ofChange fnExactDyadicOfWrong)

/-- 'laws.FnExactRoundDown': WHATEVER THE INPUT: true; the input reads as it did. -/
def fnExactRoundDownSpec : ChangeSpec := { name := "fnExactRoundDown", fn := fun _ => fun
  | [d1, d2] => { results := [.lit (.bool true)], args := [d1, d2] }
  | _ => none }
def fnExactRoundDownRow : OpenClaim := { program := "ythgalpfnfidcdaa", sum := "37d662df409eab47e0cd1b69786b92fca84871ebfa54fb769349ddc5aa66dd3e", func := "loop.example/g01009/laws.FnExactRoundDown", spec := "fnExactRoundDown", apart := false }
def FnExactRoundDownSaid : Prop := fnExactRoundDownRow.holds Try.pinned (OpenSpec.ofChange fnExactRoundDownSpec)

/-- ITS FALSE NEIGHBOUR: 'it returns false'. Refute it at one input. -/
def fnExactRoundDownWrong : ChangeSpec := { name := "fnExactRoundDown", fn := fun _ => fun
  | [d1, d2] => { results := [.lit (.bool false)], args := [d1, d2] }
  | _ => none }
def FnExactRoundDownWrongFalsely : Prop := fnExactRoundDownRow.holds Try.pinned (OpenSpec.ofChange fnExactRoundDownWrong)

/-- 'laws.FnExactRoundUp': WHATEVER THE INPUT: true; the input reads as it did. -/
def fnExactRoundUpSpec : ChangeSpec := { name := "fnExactRoundUp", fn := fun _ => fun
  | [d1, d2] => { results := [.lit (.bool true)], args := [d1, d2] }
  | _ => none }
def fnExactRoundUpRow : OpenClaim := { program := "ythgalpfnfidcdaa", sum := "37d662df409eab47e0cd1b69786b92fca84871ebfa54fb769349ddc5aa66dd3e", func := "loop.example/g01009/laws.FnExactRoundUp", spec := "fnExactRoundUp", apart := false }
def FnExactRoundUpSaid : Prop := fnExactRoundUpRow.holds Try.pinned (OpenSpec.ofChange fnExactRoundUpSpec)

/-- ITS FALSE NEIGHBOUR: 'it returns false'. Refute it at one input. -/
def fnExactRoundUpWrong : ChangeSpec := { name := "fnExactRoundUp", fn := fun _ => fun
  | [d1, d2] => { results := [.lit (.bool false)], args := [d1, d2] }
  | _ => none }
def FnExactRoundUpWrongFalsely : Prop := fnExactRoundUpRow.holds Try.pinned (OpenSpec.ofChange fnExactRoundUpWrong)

/-- 'laws.FnExactMultiplyDyadic': WHATEVER THE INPUT: true; the input reads as it did. -/
def fnExactMultiplyDyadicSpec : ChangeSpec := { name := "fnExactMultiplyDyadic", fn := fun _ => fun
  | [d1, d2] => { results := [.lit (.bool true)], args := [d1, d2] }
  | _ => none }
def fnExactMultiplyDyadicRow : OpenClaim := { program := "ythgalpfnfidcdaa", sum := "37d662df409eab47e0cd1b69786b92fca84871ebfa54fb769349ddc5aa66dd3e", func := "loop.example/g01009/laws.FnExactMultiplyDyadic", spec := "fnExactMultiplyDyadic", apart := false }
def FnExactMultiplyDyadicSaid : Prop := fnExactMultiplyDyadicRow.holds Try.pinned (OpenSpec.ofChange fnExactMultiplyDyadicSpec)

/-- ITS FALSE NEIGHBOUR: 'it returns false'. Refute it at one input. -/
def fnExactMultiplyDyadicWrong : ChangeSpec := { name := "fnExactMultiplyDyadic", fn := fun _ => fun
  | [d1, d2] => { results := [.lit (.bool false)], args := [d1, d2] }
  | _ => none }
def FnExactMultiplyDyadicWrongFalsely : Prop := fnExactMultiplyDyadicRow.holds Try.pinned (OpenSpec.ofChange fnExactMultiplyDyadicWrong)

/-- 'laws.FnExactCompareDyadic': WHATEVER THE INPUT: true; the input reads as it did. -/
def fnExactCompareDyadicSpec : ChangeSpec := { name := "fnExactCompareDyadic", fn := fun _ => fun
  | [d1, d2] => { results := [.lit (.bool true)], args := [d1, d2] }
  | _ => none }
def fnExactCompareDyadicRow : OpenClaim := { program := "ythgalpfnfidcdaa", sum := "37d662df409eab47e0cd1b69786b92fca84871ebfa54fb769349ddc5aa66dd3e", func := "loop.example/g01009/laws.FnExactCompareDyadic", spec := "fnExactCompareDyadic", apart := false }
def FnExactCompareDyadicSaid : Prop := fnExactCompareDyadicRow.holds Try.pinned (OpenSpec.ofChange fnExactCompareDyadicSpec)

/-- ITS FALSE NEIGHBOUR: 'it returns false'. Refute it at one input. -/
def fnExactCompareDyadicWrong : ChangeSpec := { name := "fnExactCompareDyadic", fn := fun _ => fun
  | [d1, d2] => { results := [.lit (.bool false)], args := [d1, d2] }
  | _ => none }
def FnExactCompareDyadicWrongFalsely : Prop := fnExactCompareDyadicRow.holds Try.pinned (OpenSpec.ofChange fnExactCompareDyadicWrong)

/-- 'laws.FnExactMiddleOf': WHATEVER THE INPUT: true; the input reads as it did. -/
def fnExactMiddleOfSpec : ChangeSpec := { name := "fnExactMiddleOf", fn := fun _ => fun
  | [d1, d2] => { results := [.lit (.bool true)], args := [d1, d2] }
  | _ => none }
def fnExactMiddleOfRow : OpenClaim := { program := "ythgalpfnfidcdaa", sum := "37d662df409eab47e0cd1b69786b92fca84871ebfa54fb769349ddc5aa66dd3e", func := "loop.example/g01009/laws.FnExactMiddleOf", spec := "fnExactMiddleOf", inPlace := ["math/bits.Add64", "math/bits.Sub64"], apart := false }
def FnExactMiddleOfSaid : Prop := fnExactMiddleOfRow.holds Try.pinned (OpenSpec.ofChange fnExactMiddleOfSpec)

/-- ITS FALSE NEIGHBOUR: 'it returns false'. Refute it at one input. -/
def fnExactMiddleOfWrong : ChangeSpec := { name := "fnExactMiddleOf", fn := fun _ => fun
  | [d1, d2] => { results := [.lit (.bool false)], args := [d1, d2] }
  | _ => none }
def FnExactMiddleOfWrongFalsely : Prop := fnExactMiddleOfRow.holds Try.pinned (OpenSpec.ofChange fnExactMiddleOfWrong)

/-- 'laws.FnExactAddDyadic': WHATEVER THE INPUT: true; the input reads as it did. -/
def fnExactAddDyadicSpec : ChangeSpec := { name := "fnExactAddDyadic", fn := fun _ => fun
  | [d1, d2] => { results := [.lit (.bool true)], args := [d1, d2] }
  | _ => none }
def fnExactAddDyadicRow : OpenClaim := { program := "ythgalpfnfidcdaa", sum := "37d662df409eab47e0cd1b69786b92fca84871ebfa54fb769349ddc5aa66dd3e", func := "loop.example/g01009/laws.FnExactAddDyadic", spec := "fnExactAddDyadic", inPlace := ["math/bits.Add64", "math/bits.Sub64"], apart := false }
def FnExactAddDyadicSaid : Prop := fnExactAddDyadicRow.holds Try.pinned (OpenSpec.ofChange fnExactAddDyadicSpec)

/-- ITS FALSE NEIGHBOUR: 'it returns false'. Refute it at one input. -/
def fnExactAddDyadicWrong : ChangeSpec := { name := "fnExactAddDyadic", fn := fun _ => fun
  | [d1, d2] => { results := [.lit (.bool false)], args := [d1, d2] }
  | _ => none }
def FnExactAddDyadicWrongFalsely : Prop := fnExactAddDyadicRow.holds Try.pinned (OpenSpec.ofChange fnExactAddDyadicWrong)

/-- 'laws.FnExactSubtractDyadic': WHATEVER THE INPUT: true; the input reads as it did. -/
def fnExactSubtractDyadicSpec : ChangeSpec := { name := "fnExactSubtractDyadic", fn := fun _ => fun
  | [d1, d2] => { results := [.lit (.bool true)], args := [d1, d2] }
  | _ => none }
def fnExactSubtractDyadicRow : OpenClaim := { program := "ythgalpfnfidcdaa", sum := "37d662df409eab47e0cd1b69786b92fca84871ebfa54fb769349ddc5aa66dd3e", func := "loop.example/g01009/laws.FnExactSubtractDyadic", spec := "fnExactSubtractDyadic", inPlace := ["math/bits.Add64", "math/bits.Sub64"], apart := false }
def FnExactSubtractDyadicSaid : Prop := fnExactSubtractDyadicRow.holds Try.pinned (OpenSpec.ofChange fnExactSubtractDyadicSpec)

/-- ITS FALSE NEIGHBOUR: 'it returns false'. Refute it at one input. -/
def fnExactSubtractDyadicWrong : ChangeSpec := { name := "fnExactSubtractDyadic", fn := fun _ => fun
  | [d1, d2] => { results := [.lit (.bool false)], args := [d1, d2] }
  | _ => none }
def FnExactSubtractDyadicWrongFalsely : Prop := fnExactSubtractDyadicRow.holds Try.pinned (OpenSpec.ofChange fnExactSubtractDyadicWrong)

/-- 'laws.FnExactDivideDown': WHATEVER THE INPUT: true; the input reads as it did. -/
def fnExactDivideDownSpec : ChangeSpec := { name := "fnExactDivideDown", fn := fun _ => fun
  | [d1, d2, d3] => { results := [.lit (.bool true)], args := [d1, d2, d3] }
  | _ => none }
def fnExactDivideDownRow : OpenClaim := { program := "ythgalpfnfidcdaa", sum := "37d662df409eab47e0cd1b69786b92fca84871ebfa54fb769349ddc5aa66dd3e", func := "loop.example/g01009/laws.FnExactDivideDown", spec := "fnExactDivideDown", inPlace := ["math/bits.Add64", "math/bits.Sub64"], named := ["math/bits.divideError", "math/bits.overflowError"], apart := false }
def FnExactDivideDownSaid : Prop := fnExactDivideDownRow.holds Try.pinned (OpenSpec.ofChange fnExactDivideDownSpec)

/-- ITS FALSE NEIGHBOUR: 'it returns false'. Refute it at one input. -/
def fnExactDivideDownWrong : ChangeSpec := { name := "fnExactDivideDown", fn := fun _ => fun
  | [d1, d2, d3] => { results := [.lit (.bool false)], args := [d1, d2, d3] }
  | _ => none }
def FnExactDivideDownWrongFalsely : Prop := fnExactDivideDownRow.holds Try.pinned (OpenSpec.ofChange fnExactDivideDownWrong)

/-- 'laws.FnExactRootDown': WHATEVER THE INPUT: true; the input reads as it did. -/
def fnExactRootDownSpec : ChangeSpec := { name := "fnExactRootDown", fn := fun _ => fun
  | [d1, d2] => { results := [.lit (.bool true)], args := [d1, d2] }
  | _ => none }
def fnExactRootDownRow : OpenClaim := { program := "ythgalpfnfidcdaa", sum := "37d662df409eab47e0cd1b69786b92fca84871ebfa54fb769349ddc5aa66dd3e", func := "loop.example/g01009/laws.FnExactRootDown", spec := "fnExactRootDown", apart := false }
def FnExactRootDownSaid : Prop := fnExactRootDownRow.holds Try.pinned (OpenSpec.ofChange fnExactRootDownSpec)

/-- ITS FALSE NEIGHBOUR: 'it returns false'. Refute it at one input. -/
def fnExactRootDownWrong : ChangeSpec := { name := "fnExactRootDown", fn := fun _ => fun
  | [d1, d2] => { results := [.lit (.bool false)], args := [d1, d2] }
  | _ => none }
def FnExactRootDownWrongFalsely : Prop := fnExactRootDownRow.holds Try.pinned (OpenSpec.ofChange fnExactRootDownWrong)

/- THE SECOND FORM. 'bulk': how many values and letters a reading holds, each counted each time it is reached (what is shared counts as often as it is met; a slice's spare places count too). A statement '..UptoSaid' is the law's where the arguments, and the package variables that the reading takes, are together of bulk at most 1048576: NARROWER than '..Said'. Prove '..Said' where nothing that the law and all that it calls make is longer than what came in: it says more and counts as full. Else prove '..UptoSaid'. A law counts once. -/
mutual
def uptoBulk {H : Type} : DataW H → Nat
  | .lit (.string bytes) => bytes.length + 1
  | .lit _ => 1
  | .nil => 1
  | .ptr d => uptoBulk d + 1
  | .slice elems spare => uptoBulkAll elems + uptoBulkAll spare + 1
  | .agg parts => uptoBulkAll parts + 1
  | .iface _ d => uptoBulk d + 1
  | .map entries => uptoBulkEntries entries + 1
  | .held _ => 1
def uptoBulkAll {H : Type} : List (DataW H) → Nat
  | [] => 0
  | d :: r => uptoBulk d + uptoBulkAll r
def uptoBulkEntries {H : Type} : List (Lit × DataW H) → Nat
  | [] => 0
  | x :: r => uptoBulkEntry x + uptoBulkEntries r
def uptoBulkEntry {H : Type} : Lit × DataW H → Nat
  | (.string bytes, d) => bytes.length + uptoBulk d + 1
  | (_, d) => uptoBulk d + 1
 end
def uptoSmall : (H : Type) → List (DataW H) → Bool := fun _ ds => decide (uptoBulkAll ds ≤ 1048576)
def OpenSpec.upto (s : _root_.Go.ChangeSpec) : _root_.Go.OpenSpec := { _root_.Go.OpenSpec.ofChange s with cond := some uptoSmall }

/-- 'laws.FnExactConstants', WHERE WHAT IT READS IS OF BULK AT MOST 1048576: true; the input reads as it did. -/
def fnExactConstantsUptoRow : OpenClaim := { program := "ythgalpfnfidcdaa", sum := "37d662df409eab47e0cd1b69786b92fca84871ebfa54fb769349ddc5aa66dd3e", func := "loop.example/g01009/laws.FnExactConstants", spec := "fnExactConstants", apart := false, narrowed := true }
def FnExactConstantsUptoSaid : Prop := fnExactConstantsUptoRow.holds Try.pinned (OpenSpec.upto fnExactConstantsSpec)

/-- 'laws.FnExactIsDyadic', WHERE WHAT IT READS IS OF BULK AT MOST 1048576: true; the input reads as it did. -/
def fnExactIsDyadicUptoRow : OpenClaim := { program := "ythgalpfnfidcdaa", sum := "37d662df409eab47e0cd1b69786b92fca84871ebfa54fb769349ddc5aa66dd3e", func := "loop.example/g01009/laws.FnExactIsDyadic", spec := "fnExactIsDyadic", apart := false, narrowed := true }
def FnExactIsDyadicUptoSaid : Prop := fnExactIsDyadicUptoRow.holds Try.pinned (OpenSpec.upto fnExactIsDyadicSpec)

/-- 'laws.FnExactDyadicOf', WHERE WHAT IT READS IS OF BULK AT MOST 1048576: true; the input reads as it did. -/
def fnExactDyadicOfUptoRow : OpenClaim := { program := "ythgalpfnfidcdaa", sum := "37d662df409eab47e0cd1b69786b92fca84871ebfa54fb769349ddc5aa66dd3e", func := "loop.example/g01009/laws.FnExactDyadicOf", spec := "fnExactDyadicOf", apart := false, narrowed := true }
def FnExactDyadicOfUptoSaid : Prop := fnExactDyadicOfUptoRow.holds Try.pinned (OpenSpec.upto fnExactDyadicOfSpec)

/-- 'laws.FnExactRoundDown', WHERE WHAT IT READS IS OF BULK AT MOST 1048576: true; the input reads as it did. -/
def fnExactRoundDownUptoRow : OpenClaim := { program := "ythgalpfnfidcdaa", sum := "37d662df409eab47e0cd1b69786b92fca84871ebfa54fb769349ddc5aa66dd3e", func := "loop.example/g01009/laws.FnExactRoundDown", spec := "fnExactRoundDown", apart := false, narrowed := true }
def FnExactRoundDownUptoSaid : Prop := fnExactRoundDownUptoRow.holds Try.pinned (OpenSpec.upto fnExactRoundDownSpec)

/-- 'laws.FnExactRoundUp', WHERE WHAT IT READS IS OF BULK AT MOST 1048576: true; the input reads as it did. -/
def fnExactRoundUpUptoRow : OpenClaim := { program := "ythgalpfnfidcdaa", sum := "37d662df409eab47e0cd1b69786b92fca84871ebfa54fb769349ddc5aa66dd3e", func := "loop.example/g01009/laws.FnExactRoundUp", spec := "fnExactRoundUp", apart := false, narrowed := true }
def FnExactRoundUpUptoSaid : Prop := fnExactRoundUpUptoRow.holds Try.pinned (OpenSpec.upto fnExactRoundUpSpec)

/-- 'laws.FnExactMultiplyDyadic', WHERE WHAT IT READS IS OF BULK AT MOST 1048576: true; the input reads as it did. -/
def fnExactMultiplyDyadicUptoRow : OpenClaim := { program := "ythgalpfnfidcdaa", sum := "37d662df409eab47e0cd1b69786b92fca84871ebfa54fb769349ddc5aa66dd3e", func := "loop.example/g01009/laws.FnExactMultiplyDyadic", spec := "fnExactMultiplyDyadic", apart := false, narrowed := true }
def FnExactMultiplyDyadicUptoSaid : Prop := fnExactMultiplyDyadicUptoRow.holds Try.pinned (OpenSpec.upto fnExactMultiplyDyadicSpec)

/-- 'laws.FnExactCompareDyadic', WHERE WHAT IT READS IS OF BULK AT MOST 1048576: true; the input reads as it did. -/
def fnExactCompareDyadicUptoRow : OpenClaim := { program := "ythgalpfnfidcdaa", sum := "37d662df409eab47e0cd1b69786b92fca84871ebfa54fb769349ddc5aa66dd3e", func := "loop.example/g01009/laws.FnExactCompareDyadic", spec := "fnExactCompareDyadic", apart := false, narrowed := true }
def FnExactCompareDyadicUptoSaid : Prop := fnExactCompareDyadicUptoRow.holds Try.pinned (OpenSpec.upto fnExactCompareDyadicSpec)

/-- 'laws.FnExactMiddleOf', WHERE WHAT IT READS IS OF BULK AT MOST 1048576: true; the input reads as it did. -/
def fnExactMiddleOfUptoRow : OpenClaim := { program := "ythgalpfnfidcdaa", sum := "37d662df409eab47e0cd1b69786b92fca84871ebfa54fb769349ddc5aa66dd3e", func := "loop.example/g01009/laws.FnExactMiddleOf", spec := "fnExactMiddleOf", inPlace := ["math/bits.Add64", "math/bits.Sub64"], apart := false, narrowed := true }
def FnExactMiddleOfUptoSaid : Prop := fnExactMiddleOfUptoRow.holds Try.pinned (OpenSpec.upto fnExactMiddleOfSpec)

/-- 'laws.FnExactAddDyadic', WHERE WHAT IT READS IS OF BULK AT MOST 1048576: true; the input reads as it did. -/
def fnExactAddDyadicUptoRow : OpenClaim := { program := "ythgalpfnfidcdaa", sum := "37d662df409eab47e0cd1b69786b92fca84871ebfa54fb769349ddc5aa66dd3e", func := "loop.example/g01009/laws.FnExactAddDyadic", spec := "fnExactAddDyadic", inPlace := ["math/bits.Add64", "math/bits.Sub64"], apart := false, narrowed := true }
def FnExactAddDyadicUptoSaid : Prop := fnExactAddDyadicUptoRow.holds Try.pinned (OpenSpec.upto fnExactAddDyadicSpec)

/-- 'laws.FnExactSubtractDyadic', WHERE WHAT IT READS IS OF BULK AT MOST 1048576: true; the input reads as it did. -/
def fnExactSubtractDyadicUptoRow : OpenClaim := { program := "ythgalpfnfidcdaa", sum := "37d662df409eab47e0cd1b69786b92fca84871ebfa54fb769349ddc5aa66dd3e", func := "loop.example/g01009/laws.FnExactSubtractDyadic", spec := "fnExactSubtractDyadic", inPlace := ["math/bits.Add64", "math/bits.Sub64"], apart := false, narrowed := true }
def FnExactSubtractDyadicUptoSaid : Prop := fnExactSubtractDyadicUptoRow.holds Try.pinned (OpenSpec.upto fnExactSubtractDyadicSpec)

/-- 'laws.FnExactDivideDown', WHERE WHAT IT READS IS OF BULK AT MOST 1048576: true; the input reads as it did. -/
def fnExactDivideDownUptoRow : OpenClaim := { program := "ythgalpfnfidcdaa", sum := "37d662df409eab47e0cd1b69786b92fca84871ebfa54fb769349ddc5aa66dd3e", func := "loop.example/g01009/laws.FnExactDivideDown", spec := "fnExactDivideDown", inPlace := ["math/bits.Add64", "math/bits.Sub64"], named := ["math/bits.divideError", "math/bits.overflowError"], apart := false, narrowed := true }
def FnExactDivideDownUptoSaid : Prop := fnExactDivideDownUptoRow.holds Try.pinned (OpenSpec.upto fnExactDivideDownSpec)

/-- 'laws.FnExactRootDown', WHERE WHAT IT READS IS OF BULK AT MOST 1048576: true; the input reads as it did. -/
def fnExactRootDownUptoRow : OpenClaim := { program := "ythgalpfnfidcdaa", sum := "37d662df409eab47e0cd1b69786b92fca84871ebfa54fb769349ddc5aa66dd3e", func := "loop.example/g01009/laws.FnExactRootDown", spec := "fnExactRootDown", apart := false, narrowed := true }
def FnExactRootDownUptoSaid : Prop := fnExactRootDownUptoRow.holds Try.pinned (OpenSpec.upto fnExactRootDownSpec)

end Rows
end Go.Proofs.Ythgalpfnfidcdaa
