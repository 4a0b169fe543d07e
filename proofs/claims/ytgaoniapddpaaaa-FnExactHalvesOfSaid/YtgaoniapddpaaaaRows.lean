/-
  No cell of these rows narrows 'for every input' (looked for: loops, veiled, ifaces, maps, wideKeys, modest, calm, conditions, laid).
  DERIVED. THE GIVEN ROWS OF THIS SEAT. 11 by the template 'for every input the law returns true; each argument reads behind the call as it read before'; 0 by the template 'total and deterministic' (their statements: YtgaoniapddpaaaaTotals.lean).
  GIVEN WITH THE SEED: the statements are not yours to turn. If you find one false, say at which input.
  Laid BY PROGRAM, IN A SANDBOX (cutbox-rows.mjs): the forced cells as the released guide's own fill.sh prints them over the translation 39b0331a834aa555… (all of the seat's roots in one cut). By AI agents, Wed Nov 11 2026. No macro, syntax, notation, axiom, sorry.
-/
import Derived.Test.YtgaoniapddpaaaaChecked
import GoSem.Claim
import GoSem.ClaimJoined
import GoSem.ClaimMapViews
import Derived.JoinedTies
import Derived.KernelRfl
namespace Go.Proofs.Ytgaoniapddpaaaa
/- THE CELL 'sum', in the pinned program and in every row, IS THE sha256 OF THE DUMP (.gsa) THAT YtgaoniapddpaaaaProg.lean LOADS. Nothing in Lean hashes anything: it is a label: what it is worth is what the hold of that sum in a sandbox is worth. -/
noncomputable def Try.pinned : Pinned := { name := "ytgaoniapddpaaaa", sum := "39b0331a834aa555b60e7f1a45ff9c93244dd989c8b7913a1e94301e1ecc0644", checked := Try.checked }
namespace Rows
def none {H : Type} : Left H := { results := [], args := [] }

/-- 'laws.FnExactIsBox': WHATEVER THE INPUT: true; the input reads as it did. -/
def fnExactIsBoxSpec : ChangeSpec := { name := "fnExactIsBox", fn := fun _ => fun
  | [d] => { results := [.lit (.bool true)], args := [d] }
  | _ => none }
def fnExactIsBoxRow : OpenClaim := { program := "ytgaoniapddpaaaa", sum := "39b0331a834aa555b60e7f1a45ff9c93244dd989c8b7913a1e94301e1ecc0644", func := "loop.example/g01009/laws.FnExactIsBox", spec := "fnExactIsBox", apart := false }
def FnExactIsBoxSaid : Prop := fnExactIsBoxRow.holds Try.pinned (OpenSpec.ofChange fnExactIsBoxSpec)

/-- ITS FALSE NEIGHBOUR: 'it returns false'. Refute it at one input. -/
def fnExactIsBoxWrong : ChangeSpec := { name := "fnExactIsBox", fn := fun _ => fun
  | [d] => { results := [.lit (.bool false)], args := [d] }
  | _ => none }
def FnExactIsBoxWrongFalsely : Prop := fnExactIsBoxRow.holds Try.pinned (OpenSpec.ofChange fnExactIsBoxWrong)

/-- 'laws.FnExactWidestSide': WHATEVER THE INPUT: true; the input reads as it did. -/
def fnExactWidestSideSpec : ChangeSpec := { name := "fnExactWidestSide", fn := fun _ => fun
  | [d] => { results := [.lit (.bool true)], args := [d] }
  | _ => none }
def fnExactWidestSideRow : OpenClaim := { program := "ytgaoniapddpaaaa", sum := "39b0331a834aa555b60e7f1a45ff9c93244dd989c8b7913a1e94301e1ecc0644", func := "loop.example/g01009/laws.FnExactWidestSide", spec := "fnExactWidestSide", apart := false }
def FnExactWidestSideSaid : Prop := fnExactWidestSideRow.holds Try.pinned (OpenSpec.ofChange fnExactWidestSideSpec)

/-- ITS FALSE NEIGHBOUR: 'it returns false'. Refute it at one input. -/
def fnExactWidestSideWrong : ChangeSpec := { name := "fnExactWidestSide", fn := fun _ => fun
  | [d] => { results := [.lit (.bool false)], args := [d] }
  | _ => none }
def FnExactWidestSideWrongFalsely : Prop := fnExactWidestSideRow.holds Try.pinned (OpenSpec.ofChange fnExactWidestSideWrong)

/-- 'laws.FnExactIsBoxInside': WHATEVER THE INPUT: true; the input reads as it did. -/
def fnExactIsBoxInsideSpec : ChangeSpec := { name := "fnExactIsBoxInside", fn := fun _ => fun
  | [d1, d2] => { results := [.lit (.bool true)], args := [d1, d2] }
  | _ => none }
def fnExactIsBoxInsideRow : OpenClaim := { program := "ytgaoniapddpaaaa", sum := "39b0331a834aa555b60e7f1a45ff9c93244dd989c8b7913a1e94301e1ecc0644", func := "loop.example/g01009/laws.FnExactIsBoxInside", spec := "fnExactIsBoxInside", apart := false }
def FnExactIsBoxInsideSaid : Prop := fnExactIsBoxInsideRow.holds Try.pinned (OpenSpec.ofChange fnExactIsBoxInsideSpec)

/-- ITS FALSE NEIGHBOUR: 'it returns false'. Refute it at one input. -/
def fnExactIsBoxInsideWrong : ChangeSpec := { name := "fnExactIsBoxInside", fn := fun _ => fun
  | [d1, d2] => { results := [.lit (.bool false)], args := [d1, d2] }
  | _ => none }
def FnExactIsBoxInsideWrongFalsely : Prop := fnExactIsBoxInsideRow.holds Try.pinned (OpenSpec.ofChange fnExactIsBoxInsideWrong)

/-- 'laws.FnExactSideOf': WHATEVER THE INPUT: true; the input reads as it did. -/
def fnExactSideOfSpec : ChangeSpec := { name := "fnExactSideOf", fn := fun _ => fun
  | [d1, d2] => { results := [.lit (.bool true)], args := [d1, d2] }
  | _ => none }
def fnExactSideOfRow : OpenClaim := { program := "ytgaoniapddpaaaa", sum := "39b0331a834aa555b60e7f1a45ff9c93244dd989c8b7913a1e94301e1ecc0644", func := "loop.example/g01009/laws.FnExactSideOf", spec := "fnExactSideOf", apart := false }
def FnExactSideOfSaid : Prop := fnExactSideOfRow.holds Try.pinned (OpenSpec.ofChange fnExactSideOfSpec)

/-- ITS FALSE NEIGHBOUR: 'it returns false'. Refute it at one input. -/
def fnExactSideOfWrong : ChangeSpec := { name := "fnExactSideOf", fn := fun _ => fun
  | [d1, d2] => { results := [.lit (.bool false)], args := [d1, d2] }
  | _ => none }
def FnExactSideOfWrongFalsely : Prop := fnExactSideOfRow.holds Try.pinned (OpenSpec.ofChange fnExactSideOfWrong)

/-- 'laws.FnExactVolumeOf': WHATEVER THE INPUT: true; the input reads as it did. -/
def fnExactVolumeOfSpec : ChangeSpec := { name := "fnExactVolumeOf", fn := fun _ => fun
  | [d] => { results := [.lit (.bool true)], args := [d] }
  | _ => none }
def fnExactVolumeOfRow : OpenClaim := { program := "ytgaoniapddpaaaa", sum := "39b0331a834aa555b60e7f1a45ff9c93244dd989c8b7913a1e94301e1ecc0644", func := "loop.example/g01009/laws.FnExactVolumeOf", spec := "fnExactVolumeOf", apart := false }
def FnExactVolumeOfSaid : Prop := fnExactVolumeOfRow.holds Try.pinned (OpenSpec.ofChange fnExactVolumeOfSpec)

/-- ITS FALSE NEIGHBOUR: 'it returns false'. Refute it at one input. -/
def fnExactVolumeOfWrong : ChangeSpec := { name := "fnExactVolumeOf", fn := fun _ => fun
  | [d] => { results := [.lit (.bool false)], args := [d] }
  | _ => none }
def FnExactVolumeOfWrongFalsely : Prop := fnExactVolumeOfRow.holds Try.pinned (OpenSpec.ofChange fnExactVolumeOfWrong)

/-- 'laws.FnExactBoxOf': WHATEVER THE INPUT: true; the input reads as it did. -/
def fnExactBoxOfSpec : ChangeSpec := { name := "fnExactBoxOf", fn := fun _ => fun
  | [d1, d2, d3] => { results := [.lit (.bool true)], args := [d1, d2, d3] }
  | _ => none }
def fnExactBoxOfRow : OpenClaim := { program := "ytgaoniapddpaaaa", sum := "39b0331a834aa555b60e7f1a45ff9c93244dd989c8b7913a1e94301e1ecc0644", func := "loop.example/g01009/laws.FnExactBoxOf", spec := "fnExactBoxOf", unfollowed := true, recurses := true, apart := false }
def FnExactBoxOfSaid : Prop := fnExactBoxOfRow.holds Try.pinned (OpenSpec.ofChange fnExactBoxOfSpec)

/-- ITS FALSE NEIGHBOUR: 'it returns false'. Refute it at one input. -/
def fnExactBoxOfWrong : ChangeSpec := { name := "fnExactBoxOf", fn := fun _ => fun
  | [d1, d2, d3] => { results := [.lit (.bool false)], args := [d1, d2, d3] }
  | _ => none }
def FnExactBoxOfWrongFalsely : Prop := fnExactBoxOfRow.holds Try.pinned (OpenSpec.ofChange fnExactBoxOfWrong)

/-- 'laws.FnExactMiddlePoint': WHATEVER THE INPUT: true; the input reads as it did. -/
def fnExactMiddlePointSpec : ChangeSpec := { name := "fnExactMiddlePoint", fn := fun _ => fun
  | [d] => { results := [.lit (.bool true)], args := [d] }
  | _ => none }
def fnExactMiddlePointRow : OpenClaim := { program := "ytgaoniapddpaaaa", sum := "39b0331a834aa555b60e7f1a45ff9c93244dd989c8b7913a1e94301e1ecc0644", func := "loop.example/g01009/laws.FnExactMiddlePoint", spec := "fnExactMiddlePoint", apart := false }
def FnExactMiddlePointSaid : Prop := fnExactMiddlePointRow.holds Try.pinned (OpenSpec.ofChange fnExactMiddlePointSpec)

/-- ITS FALSE NEIGHBOUR: 'it returns false'. Refute it at one input. -/
def fnExactMiddlePointWrong : ChangeSpec := { name := "fnExactMiddlePoint", fn := fun _ => fun
  | [d] => { results := [.lit (.bool false)], args := [d] }
  | _ => none }
def FnExactMiddlePointWrongFalsely : Prop := fnExactMiddlePointRow.holds Try.pinned (OpenSpec.ofChange fnExactMiddlePointWrong)

/-- 'laws.FnExactHullOfBoxes': WHATEVER THE INPUT: true; the input reads as it did. -/
def fnExactHullOfBoxesSpec : ChangeSpec := { name := "fnExactHullOfBoxes", fn := fun _ => fun
  | [d1, d2] => { results := [.lit (.bool true)], args := [d1, d2] }
  | _ => none }
def fnExactHullOfBoxesRow : OpenClaim := { program := "ytgaoniapddpaaaa", sum := "39b0331a834aa555b60e7f1a45ff9c93244dd989c8b7913a1e94301e1ecc0644", func := "loop.example/g01009/laws.FnExactHullOfBoxes", spec := "fnExactHullOfBoxes", unfollowed := true, recurses := true, apart := false }
def FnExactHullOfBoxesSaid : Prop := fnExactHullOfBoxesRow.holds Try.pinned (OpenSpec.ofChange fnExactHullOfBoxesSpec)

/-- ITS FALSE NEIGHBOUR: 'it returns false'. Refute it at one input. -/
def fnExactHullOfBoxesWrong : ChangeSpec := { name := "fnExactHullOfBoxes", fn := fun _ => fun
  | [d1, d2] => { results := [.lit (.bool false)], args := [d1, d2] }
  | _ => none }
def FnExactHullOfBoxesWrongFalsely : Prop := fnExactHullOfBoxesRow.holds Try.pinned (OpenSpec.ofChange fnExactHullOfBoxesWrong)

/-- 'laws.FnExactCornersOf': WHATEVER THE INPUT: true; the input reads as it did. -/
def fnExactCornersOfSpec : ChangeSpec := { name := "fnExactCornersOf", fn := fun _ => fun
  | [d] => { results := [.lit (.bool true)], args := [d] }
  | _ => none }
def fnExactCornersOfRow : OpenClaim := { program := "ytgaoniapddpaaaa", sum := "39b0331a834aa555b60e7f1a45ff9c93244dd989c8b7913a1e94301e1ecc0644", func := "loop.example/g01009/laws.FnExactCornersOf", spec := "fnExactCornersOf", recurses := true, apart := false }
def FnExactCornersOfSaid : Prop := fnExactCornersOfRow.holds Try.pinned (OpenSpec.ofChange fnExactCornersOfSpec)

/-- ITS FALSE NEIGHBOUR: 'it returns false'. Refute it at one input. -/
def fnExactCornersOfWrong : ChangeSpec := { name := "fnExactCornersOf", fn := fun _ => fun
  | [d] => { results := [.lit (.bool false)], args := [d] }
  | _ => none }
def FnExactCornersOfWrongFalsely : Prop := fnExactCornersOfRow.holds Try.pinned (OpenSpec.ofChange fnExactCornersOfWrong)

/-- 'laws.FnExactCommonBox': WHATEVER THE INPUT: true; the input reads as it did. -/
def fnExactCommonBoxSpec : ChangeSpec := { name := "fnExactCommonBox", fn := fun _ => fun
  | [d1, d2] => { results := [.lit (.bool true)], args := [d1, d2] }
  | _ => none }
def fnExactCommonBoxRow : OpenClaim := { program := "ytgaoniapddpaaaa", sum := "39b0331a834aa555b60e7f1a45ff9c93244dd989c8b7913a1e94301e1ecc0644", func := "loop.example/g01009/laws.FnExactCommonBox", spec := "fnExactCommonBox", unfollowed := true, recurses := true, apart := false }
def FnExactCommonBoxSaid : Prop := fnExactCommonBoxRow.holds Try.pinned (OpenSpec.ofChange fnExactCommonBoxSpec)

/-- ITS FALSE NEIGHBOUR: 'it returns false'. Refute it at one input. -/
def fnExactCommonBoxWrong : ChangeSpec := { name := "fnExactCommonBox", fn := fun _ => fun
  | [d1, d2] => { results := [.lit (.bool false)], args := [d1, d2] }
  | _ => none }
def FnExactCommonBoxWrongFalsely : Prop := fnExactCommonBoxRow.holds Try.pinned (OpenSpec.ofChange fnExactCommonBoxWrong)

/-- 'laws.FnExactHalvesOf': WHATEVER THE INPUT: true; the input reads as it did. -/
def fnExactHalvesOfSpec : ChangeSpec := { name := "fnExactHalvesOf", fn := fun _ => fun
  | [d1, d2] => { results := [.lit (.bool true)], args := [d1, d2] }
  | _ => none }
def fnExactHalvesOfRow : OpenClaim := { program := "ytgaoniapddpaaaa", sum := "39b0331a834aa555b60e7f1a45ff9c93244dd989c8b7913a1e94301e1ecc0644", func := "loop.example/g01009/laws.FnExactHalvesOf", spec := "fnExactHalvesOf", unfollowed := true, recurses := true, apart := false }
def FnExactHalvesOfSaid : Prop := fnExactHalvesOfRow.holds Try.pinned (OpenSpec.ofChange fnExactHalvesOfSpec)

/-- ITS FALSE NEIGHBOUR: 'it returns false'. Refute it at one input. -/
def fnExactHalvesOfWrong : ChangeSpec := { name := "fnExactHalvesOf", fn := fun _ => fun
  | [d1, d2] => { results := [.lit (.bool false)], args := [d1, d2] }
  | _ => none }
def FnExactHalvesOfWrongFalsely : Prop := fnExactHalvesOfRow.holds Try.pinned (OpenSpec.ofChange fnExactHalvesOfWrong)

/- THE SECOND FORM. 'bulk': how many values and letters a reading holds, each counted each time it is reached (what is shared counts as often as it is met; a slice's spare places count too). A statement '..UptoSaid' is the law's where the arguments, and the package variables that the reading takes, are together of bulk at most 1048576: NARROWER than '..Said'. Prove '..Said' where nothing that the law and all that it calls make is longer than what came in: it says more and counts as full. Else prove '..UptoSaid'. A law counts once. -/
mutual
def uptoBulk {H : Type} : DataW H → Nat
  | .lit (.string bytes) => bytes.length + 1
  | .lit _ => 1
  | .nil => 1
  | .ptr d => uptoBulk d + 1
  | .slice elems spare => uptoBulkAll elems + uptoBulkAll spare + 1
  | .agg parts => uptoBulkAll parts + 1
  | .iface _ d => uptoBulk d + 1
  | .map entries => uptoBulkEntries entries + 1
  | .held _ => 1
def uptoBulkAll {H : Type} : List (DataW H) → Nat
  | [] => 0
  | d :: r => uptoBulk d + uptoBulkAll r
def uptoBulkEntries {H : Type} : List (Lit × DataW H) → Nat
  | [] => 0
  | x :: r => uptoBulkEntry x + uptoBulkEntries r
def uptoBulkEntry {H : Type} : Lit × DataW H → Nat
  | (.string bytes, d) => bytes.length + uptoBulk d + 1
  | (_, d) => uptoBulk d + 1
 end
def uptoSmall : (H : Type) → List (DataW H) → Bool := fun _ ds => decide (uptoBulkAll ds ≤ 1048576)
def OpenSpec.upto (s : _root_.Go.ChangeSpec) : _root_.Go.OpenSpec := { _root_.Go.OpenSpec.ofChange s with cond := some uptoSmall }

/-- 'laws.FnExactIsBox', WHERE WHAT IT READS IS OF BULK AT MOST 1048576: true; the input reads as it did. -/
def fnExactIsBoxUptoRow : OpenClaim := { program := "ytgaoniapddpaaaa", sum := "39b0331a834aa555b60e7f1a45ff9c93244dd989c8b7913a1e94301e1ecc0644", func := "loop.example/g01009/laws.FnExactIsBox", spec := "fnExactIsBox", apart := false, narrowed := true }
def FnExactIsBoxUptoSaid : Prop := fnExactIsBoxUptoRow.holds Try.pinned (OpenSpec.upto fnExactIsBoxSpec)

/-- 'laws.FnExactWidestSide', WHERE WHAT IT READS IS OF BULK AT MOST 1048576: true; the input reads as it did. -/
def fnExactWidestSideUptoRow : OpenClaim := { program := "ytgaoniapddpaaaa", sum := "39b0331a834aa555b60e7f1a45ff9c93244dd989c8b7913a1e94301e1ecc0644", func := "loop.example/g01009/laws.FnExactWidestSide", spec := "fnExactWidestSide", apart := false, narrowed := true }
def FnExactWidestSideUptoSaid : Prop := fnExactWidestSideUptoRow.holds Try.pinned (OpenSpec.upto fnExactWidestSideSpec)

/-- 'laws.FnExactIsBoxInside', WHERE WHAT IT READS IS OF BULK AT MOST 1048576: true; the input reads as it did. -/
def fnExactIsBoxInsideUptoRow : OpenClaim := { program := "ytgaoniapddpaaaa", sum := "39b0331a834aa555b60e7f1a45ff9c93244dd989c8b7913a1e94301e1ecc0644", func := "loop.example/g01009/laws.FnExactIsBoxInside", spec := "fnExactIsBoxInside", apart := false, narrowed := true }
def FnExactIsBoxInsideUptoSaid : Prop := fnExactIsBoxInsideUptoRow.holds Try.pinned (OpenSpec.upto fnExactIsBoxInsideSpec)

/-- 'laws.FnExactSideOf', WHERE WHAT IT READS IS OF BULK AT MOST 1048576: true; the input reads as it did. -/
def fnExactSideOfUptoRow : OpenClaim := { program := "ytgaoniapddpaaaa", sum := "39b0331a834aa555b60e7f1a45ff9c93244dd989c8b7913a1e94301e1ecc0644", func := "loop.example/g01009/laws.FnExactSideOf", spec := "fnExactSideOf", apart := false, narrowed := true }
def FnExactSideOfUptoSaid : Prop := fnExactSideOfUptoRow.holds Try.pinned (OpenSpec.upto fnExactSideOfSpec)

/-- 'laws.FnExactVolumeOf', WHERE WHAT IT READS IS OF BULK AT MOST 1048576: true; the input reads as it did. -/
def fnExactVolumeOfUptoRow : OpenClaim := { program := "ytgaoniapddpaaaa", sum := "39b0331a834aa555b60e7f1a45ff9c93244dd989c8b7913a1e94301e1ecc0644", func := "loop.example/g01009/laws.FnExactVolumeOf", spec := "fnExactVolumeOf", apart := false, narrowed := true }
def FnExactVolumeOfUptoSaid : Prop := fnExactVolumeOfUptoRow.holds Try.pinned (OpenSpec.upto fnExactVolumeOfSpec)

/-- 'laws.FnExactBoxOf', WHERE WHAT IT READS IS OF BULK AT MOST 1048576: true; the input reads as it did. -/
def fnExactBoxOfUptoRow : OpenClaim := { program := "ytgaoniapddpaaaa", sum := "39b0331a834aa555b60e7f1a45ff9c93244dd989c8b7913a1e94301e1ecc0644", func := "loop.example/g01009/laws.FnExactBoxOf", spec := "fnExactBoxOf", unfollowed := true, recurses := true, apart := false, narrowed := true }
def FnExactBoxOfUptoSaid : Prop := fnExactBoxOfUptoRow.holds Try.pinned (OpenSpec.upto fnExactBoxOfSpec)

/-- 'laws.FnExactMiddlePoint', WHERE WHAT IT READS IS OF BULK AT MOST 1048576: true; the input reads as it did. -/
def fnExactMiddlePointUptoRow : OpenClaim := { program := "ytgaoniapddpaaaa", sum := "39b0331a834aa555b60e7f1a45ff9c93244dd989c8b7913a1e94301e1ecc0644", func := "loop.example/g01009/laws.FnExactMiddlePoint", spec := "fnExactMiddlePoint", apart := false, narrowed := true }
def FnExactMiddlePointUptoSaid : Prop := fnExactMiddlePointUptoRow.holds Try.pinned (OpenSpec.upto fnExactMiddlePointSpec)

/-- 'laws.FnExactHullOfBoxes', WHERE WHAT IT READS IS OF BULK AT MOST 1048576: true; the input reads as it did. -/
def fnExactHullOfBoxesUptoRow : OpenClaim := { program := "ytgaoniapddpaaaa", sum := "39b0331a834aa555b60e7f1a45ff9c93244dd989c8b7913a1e94301e1ecc0644", func := "loop.example/g01009/laws.FnExactHullOfBoxes", spec := "fnExactHullOfBoxes", unfollowed := true, recurses := true, apart := false, narrowed := true }
def FnExactHullOfBoxesUptoSaid : Prop := fnExactHullOfBoxesUptoRow.holds Try.pinned (OpenSpec.upto fnExactHullOfBoxesSpec)

/-- 'laws.FnExactCornersOf', WHERE WHAT IT READS IS OF BULK AT MOST 1048576: true; the input reads as it did. -/
def fnExactCornersOfUptoRow : OpenClaim := { program := "ytgaoniapddpaaaa", sum := "39b0331a834aa555b60e7f1a45ff9c93244dd989c8b7913a1e94301e1ecc0644", func := "loop.example/g01009/laws.FnExactCornersOf", spec := "fnExactCornersOf", recurses := true, apart := false, narrowed := true }
def FnExactCornersOfUptoSaid : Prop := fnExactCornersOfUptoRow.holds Try.pinned (OpenSpec.upto fnExactCornersOfSpec)

/-- 'laws.FnExactCommonBox', WHERE WHAT IT READS IS OF BULK AT MOST 1048576: true; the input reads as it did. -/
def fnExactCommonBoxUptoRow : OpenClaim := { program := "ytgaoniapddpaaaa", sum := "39b0331a834aa555b60e7f1a45ff9c93244dd989c8b7913a1e94301e1ecc0644", func := "loop.example/g01009/laws.FnExactCommonBox", spec := "fnExactCommonBox", unfollowed := true, recurses := true, apart := false, narrowed := true }
def FnExactCommonBoxUptoSaid : Prop := fnExactCommonBoxUptoRow.holds Try.pinned (OpenSpec.upto fnExactCommonBoxSpec)

/-- 'laws.FnExactHalvesOf', WHERE WHAT IT READS IS OF BULK AT MOST 1048576: true; the input reads as it did. -/
def fnExactHalvesOfUptoRow : OpenClaim := { program := "ytgaoniapddpaaaa", sum := "39b0331a834aa555b60e7f1a45ff9c93244dd989c8b7913a1e94301e1ecc0644", func := "loop.example/g01009/laws.FnExactHalvesOf", spec := "fnExactHalvesOf", unfollowed := true, recurses := true, apart := false, narrowed := true }
def FnExactHalvesOfUptoSaid : Prop := fnExactHalvesOfUptoRow.holds Try.pinned (OpenSpec.upto fnExactHalvesOfSpec)

end Rows
end Go.Proofs.Ytgaoniapddpaaaa
