/-
  No cell of these rows narrows 'for every input' (looked for: loops, veiled, ifaces, maps, wideKeys, modest, calm, conditions, laid).
  DERIVED. THE GIVEN ROWS OF THIS SEAT. 12 by the template 'for every input the law returns true; each argument reads behind the call as it read before'; 0 by the template 'total and deterministic' (their statements: YtfnmppeoleicbaaTotals.lean).
  GIVEN WITH THE SEED: the statements are not yours to turn. If you find one false, say at which input.
  Laid BY PROGRAM, IN A SANDBOX (cutbox-rows.mjs): the forced cells as the released guide's own fill.sh prints them over the translation 9737553e4886fbab… (all of the seat's roots in one cut). By AI agents, Wed Nov 11 2026. No macro, syntax, notation, axiom, sorry.
-/
import Derived.Test.YtfnmppeoleicbaaChecked
import GoSem.Claim
import GoSem.ClaimJoined
import GoSem.ClaimMapViews
import Derived.JoinedTies
import Derived.KernelRfl
namespace Go.Proofs.Ytfnmppeoleicbaa
/- THE CELL 'sum', in the pinned program and in every row, IS THE sha256 OF THE DUMP (.gsa) THAT YtfnmppeoleicbaaProg.lean LOADS. Nothing in Lean hashes anything: it is a label: what it is worth is what the hold of that sum in a sandbox is worth. -/
noncomputable def Try.pinned : Pinned := { name := "ytfnmppeoleicbaa", sum := "9737553e4886fbab008eb3bf0fcc2c645fb491cab93c65367d9ad6662ae313a2", checked := Try.checked }
namespace Rows
def none {H : Type} : Left H := { results := [], args := [] }

/-- 'laws.FnExactIsPoly': WHATEVER THE INPUT: true; the input reads as it did. -/
def fnExactIsPolySpec : ChangeSpec := { name := "fnExactIsPoly", fn := fun _ => fun
  | [d] => { results := [.lit (.bool true)], args := [d] }
  | _ => none }
def fnExactIsPolyRow : OpenClaim := { program := "ytfnmppeoleicbaa", sum := "9737553e4886fbab008eb3bf0fcc2c645fb491cab93c65367d9ad6662ae313a2", func := "loop.example/g01009/laws.FnExactIsPoly", spec := "fnExactIsPoly", apart := false }
def FnExactIsPolySaid : Prop := fnExactIsPolyRow.holds Try.pinned (OpenSpec.ofChange fnExactIsPolySpec)

/-- ITS FALSE NEIGHBOUR: 'it returns false'. Refute it at one input. -/
def fnExactIsPolyWrong : ChangeSpec := { name := "fnExactIsPoly", fn := fun _ => fun
  | [d] => { results := [.lit (.bool false)], args := [d] }
  | _ => none }
def FnExactIsPolyWrongFalsely : Prop := fnExactIsPolyRow.holds Try.pinned (OpenSpec.ofChange fnExactIsPolyWrong)

/-- 'laws.FnExactDegreeOf': WHATEVER THE INPUT: true; the input reads as it did. -/
def fnExactDegreeOfSpec : ChangeSpec := { name := "fnExactDegreeOf", fn := fun _ => fun
  | [d] => { results := [.lit (.bool true)], args := [d] }
  | _ => none }
def fnExactDegreeOfRow : OpenClaim := { program := "ytfnmppeoleicbaa", sum := "9737553e4886fbab008eb3bf0fcc2c645fb491cab93c65367d9ad6662ae313a2", func := "loop.example/g01009/laws.FnExactDegreeOf", spec := "fnExactDegreeOf", apart := false }
def FnExactDegreeOfSaid : Prop := fnExactDegreeOfRow.holds Try.pinned (OpenSpec.ofChange fnExactDegreeOfSpec)

/-- ITS FALSE NEIGHBOUR: 'it returns false'. Refute it at one input. -/
def fnExactDegreeOfWrong : ChangeSpec := { name := "fnExactDegreeOf", fn := fun _ => fun
  | [d] => { results := [.lit (.bool false)], args := [d] }
  | _ => none }
def FnExactDegreeOfWrongFalsely : Prop := fnExactDegreeOfRow.holds Try.pinned (OpenSpec.ofChange fnExactDegreeOfWrong)

/-- 'laws.FnExactDegreeIn': WHATEVER THE INPUT: true; the input reads as it did. -/
def fnExactDegreeInSpec : ChangeSpec := { name := "fnExactDegreeIn", fn := fun _ => fun
  | [d1, d2] => { results := [.lit (.bool true)], args := [d1, d2] }
  | _ => none }
def fnExactDegreeInRow : OpenClaim := { program := "ytfnmppeoleicbaa", sum := "9737553e4886fbab008eb3bf0fcc2c645fb491cab93c65367d9ad6662ae313a2", func := "loop.example/g01009/laws.FnExactDegreeIn", spec := "fnExactDegreeIn", apart := false }
def FnExactDegreeInSaid : Prop := fnExactDegreeInRow.holds Try.pinned (OpenSpec.ofChange fnExactDegreeInSpec)

/-- ITS FALSE NEIGHBOUR: 'it returns false'. Refute it at one input. -/
def fnExactDegreeInWrong : ChangeSpec := { name := "fnExactDegreeIn", fn := fun _ => fun
  | [d1, d2] => { results := [.lit (.bool false)], args := [d1, d2] }
  | _ => none }
def FnExactDegreeInWrongFalsely : Prop := fnExactDegreeInRow.holds Try.pinned (OpenSpec.ofChange fnExactDegreeInWrong)

/-- 'laws.FnExactPrimitivePoly': WHATEVER THE INPUT: true; the input reads as it did. -/
def fnExactPrimitivePolySpec : ChangeSpec := { name := "fnExactPrimitivePoly", fn := fun _ => fun
  | [d] => { results := [.lit (.bool true)], args := [d] }
  | _ => none }
def fnExactPrimitivePolyRow : OpenClaim := { program := "ytfnmppeoleicbaa", sum := "9737553e4886fbab008eb3bf0fcc2c645fb491cab93c65367d9ad6662ae313a2", func := "loop.example/g01009/laws.FnExactPrimitivePoly", spec := "fnExactPrimitivePoly", apart := false }
def FnExactPrimitivePolySaid : Prop := fnExactPrimitivePolyRow.holds Try.pinned (OpenSpec.ofChange fnExactPrimitivePolySpec)

/-- ITS FALSE NEIGHBOUR: 'it returns false'. Refute it at one input. -/
def fnExactPrimitivePolyWrong : ChangeSpec := { name := "fnExactPrimitivePoly", fn := fun _ => fun
  | [d] => { results := [.lit (.bool false)], args := [d] }
  | _ => none }
def FnExactPrimitivePolyWrongFalsely : Prop := fnExactPrimitivePolyRow.holds Try.pinned (OpenSpec.ofChange fnExactPrimitivePolyWrong)

/-- 'laws.FnExactUnknownsOf': WHATEVER THE INPUT: true; the input reads as it did. -/
def fnExactUnknownsOfSpec : ChangeSpec := { name := "fnExactUnknownsOf", fn := fun _ => fun
  | [d] => { results := [.lit (.bool true)], args := [d] }
  | _ => none }
def fnExactUnknownsOfRow : OpenClaim := { program := "ytfnmppeoleicbaa", sum := "9737553e4886fbab008eb3bf0fcc2c645fb491cab93c65367d9ad6662ae313a2", func := "loop.example/g01009/laws.FnExactUnknownsOf", spec := "fnExactUnknownsOf", unfollowed := true, recurses := true, apart := false }
def FnExactUnknownsOfSaid : Prop := fnExactUnknownsOfRow.holds Try.pinned (OpenSpec.ofChange fnExactUnknownsOfSpec)

/-- ITS FALSE NEIGHBOUR: 'it returns false'. Refute it at one input. -/
def fnExactUnknownsOfWrong : ChangeSpec := { name := "fnExactUnknownsOf", fn := fun _ => fun
  | [d] => { results := [.lit (.bool false)], args := [d] }
  | _ => none }
def FnExactUnknownsOfWrongFalsely : Prop := fnExactUnknownsOfRow.holds Try.pinned (OpenSpec.ofChange fnExactUnknownsOfWrong)

/-- 'laws.FnExactIsSystem': WHATEVER THE INPUT: true; the input reads as it did. -/
def fnExactIsSystemSpec : ChangeSpec := { name := "fnExactIsSystem", fn := fun _ => fun
  | [d] => { results := [.lit (.bool true)], args := [d] }
  | _ => none }
def fnExactIsSystemRow : OpenClaim := { program := "ytfnmppeoleicbaa", sum := "9737553e4886fbab008eb3bf0fcc2c645fb491cab93c65367d9ad6662ae313a2", func := "loop.example/g01009/laws.FnExactIsSystem", spec := "fnExactIsSystem", apart := false }
def FnExactIsSystemSaid : Prop := fnExactIsSystemRow.holds Try.pinned (OpenSpec.ofChange fnExactIsSystemSpec)

/-- ITS FALSE NEIGHBOUR: 'it returns false'. Refute it at one input. -/
def fnExactIsSystemWrong : ChangeSpec := { name := "fnExactIsSystem", fn := fun _ => fun
  | [d] => { results := [.lit (.bool false)], args := [d] }
  | _ => none }
def FnExactIsSystemWrongFalsely : Prop := fnExactIsSystemRow.holds Try.pinned (OpenSpec.ofChange fnExactIsSystemWrong)

/-- 'laws.FnExactNormalPoly': WHATEVER THE INPUT: true; the input reads as it did. -/
def fnExactNormalPolySpec : ChangeSpec := { name := "fnExactNormalPoly", fn := fun _ => fun
  | [d] => { results := [.lit (.bool true)], args := [d] }
  | _ => none }
def fnExactNormalPolyRow : OpenClaim := { program := "ytfnmppeoleicbaa", sum := "9737553e4886fbab008eb3bf0fcc2c645fb491cab93c65367d9ad6662ae313a2", func := "loop.example/g01009/laws.FnExactNormalPoly", spec := "fnExactNormalPoly", unfollowed := true, recurses := true, apart := false }
def FnExactNormalPolySaid : Prop := fnExactNormalPolyRow.holds Try.pinned (OpenSpec.ofChange fnExactNormalPolySpec)

/-- ITS FALSE NEIGHBOUR: 'it returns false'. Refute it at one input. -/
def fnExactNormalPolyWrong : ChangeSpec := { name := "fnExactNormalPoly", fn := fun _ => fun
  | [d] => { results := [.lit (.bool false)], args := [d] }
  | _ => none }
def FnExactNormalPolyWrongFalsely : Prop := fnExactNormalPolyRow.holds Try.pinned (OpenSpec.ofChange fnExactNormalPolyWrong)

/-- 'laws.FnExactMultiplyPoly': WHATEVER THE INPUT: true; the input reads as it did. -/
def fnExactMultiplyPolySpec : ChangeSpec := { name := "fnExactMultiplyPoly", fn := fun _ => fun
  | [d1, d2] => { results := [.lit (.bool true)], args := [d1, d2] }
  | _ => none }
def fnExactMultiplyPolyRow : OpenClaim := { program := "ytfnmppeoleicbaa", sum := "9737553e4886fbab008eb3bf0fcc2c645fb491cab93c65367d9ad6662ae313a2", func := "loop.example/g01009/laws.FnExactMultiplyPoly", spec := "fnExactMultiplyPoly", unfollowed := true, recurses := true, apart := false }
def FnExactMultiplyPolySaid : Prop := fnExactMultiplyPolyRow.holds Try.pinned (OpenSpec.ofChange fnExactMultiplyPolySpec)

/-- ITS FALSE NEIGHBOUR: 'it returns false'. Refute it at one input. -/
def fnExactMultiplyPolyWrong : ChangeSpec := { name := "fnExactMultiplyPoly", fn := fun _ => fun
  | [d1, d2] => { results := [.lit (.bool false)], args := [d1, d2] }
  | _ => none }
def FnExactMultiplyPolyWrongFalsely : Prop := fnExactMultiplyPolyRow.holds Try.pinned (OpenSpec.ofChange fnExactMultiplyPolyWrong)

/-- 'laws.FnExactScalePoly': WHATEVER THE INPUT: true; the input reads as it did. -/
def fnExactScalePolySpec : ChangeSpec := { name := "fnExactScalePoly", fn := fun _ => fun
  | [d1, d2] => { results := [.lit (.bool true)], args := [d1, d2] }
  | _ => none }
def fnExactScalePolyRow : OpenClaim := { program := "ytfnmppeoleicbaa", sum := "9737553e4886fbab008eb3bf0fcc2c645fb491cab93c65367d9ad6662ae313a2", func := "loop.example/g01009/laws.FnExactScalePoly", spec := "fnExactScalePoly", unfollowed := true, recurses := true, apart := false }
def FnExactScalePolySaid : Prop := fnExactScalePolyRow.holds Try.pinned (OpenSpec.ofChange fnExactScalePolySpec)

/-- ITS FALSE NEIGHBOUR: 'it returns false'. Refute it at one input. -/
def fnExactScalePolyWrong : ChangeSpec := { name := "fnExactScalePoly", fn := fun _ => fun
  | [d1, d2] => { results := [.lit (.bool false)], args := [d1, d2] }
  | _ => none }
def FnExactScalePolyWrongFalsely : Prop := fnExactScalePolyRow.holds Try.pinned (OpenSpec.ofChange fnExactScalePolyWrong)

/-- 'laws.FnExactAddPoly': WHATEVER THE INPUT: true; the input reads as it did. -/
def fnExactAddPolySpec : ChangeSpec := { name := "fnExactAddPoly", fn := fun _ => fun
  | [d1, d2] => { results := [.lit (.bool true)], args := [d1, d2] }
  | _ => none }
def fnExactAddPolyRow : OpenClaim := { program := "ytfnmppeoleicbaa", sum := "9737553e4886fbab008eb3bf0fcc2c645fb491cab93c65367d9ad6662ae313a2", func := "loop.example/g01009/laws.FnExactAddPoly", spec := "fnExactAddPoly", unfollowed := true, recurses := true, apart := false }
def FnExactAddPolySaid : Prop := fnExactAddPolyRow.holds Try.pinned (OpenSpec.ofChange fnExactAddPolySpec)

/-- ITS FALSE NEIGHBOUR: 'it returns false'. Refute it at one input. -/
def fnExactAddPolyWrong : ChangeSpec := { name := "fnExactAddPoly", fn := fun _ => fun
  | [d1, d2] => { results := [.lit (.bool false)], args := [d1, d2] }
  | _ => none }
def FnExactAddPolyWrongFalsely : Prop := fnExactAddPolyRow.holds Try.pinned (OpenSpec.ofChange fnExactAddPolyWrong)

/-- 'laws.FnExactPutInteger': WHATEVER THE INPUT: true; the input reads as it did. -/
def fnExactPutIntegerSpec : ChangeSpec := { name := "fnExactPutInteger", fn := fun _ => fun
  | [d1, d2, d3] => { results := [.lit (.bool true)], args := [d1, d2, d3] }
  | _ => none }
def fnExactPutIntegerRow : OpenClaim := { program := "ytfnmppeoleicbaa", sum := "9737553e4886fbab008eb3bf0fcc2c645fb491cab93c65367d9ad6662ae313a2", func := "loop.example/g01009/laws.FnExactPutInteger", spec := "fnExactPutInteger", unfollowed := true, recurses := true, apart := false }
def FnExactPutIntegerSaid : Prop := fnExactPutIntegerRow.holds Try.pinned (OpenSpec.ofChange fnExactPutIntegerSpec)

/-- ITS FALSE NEIGHBOUR: 'it returns false'. Refute it at one input. -/
def fnExactPutIntegerWrong : ChangeSpec := { name := "fnExactPutInteger", fn := fun _ => fun
  | [d1, d2, d3] => { results := [.lit (.bool false)], args := [d1, d2, d3] }
  | _ => none }
def FnExactPutIntegerWrongFalsely : Prop := fnExactPutIntegerRow.holds Try.pinned (OpenSpec.ofChange fnExactPutIntegerWrong)

/-- 'laws.FnExactDerivePoly': WHATEVER THE INPUT: true; the input reads as it did. -/
def fnExactDerivePolySpec : ChangeSpec := { name := "fnExactDerivePoly", fn := fun _ => fun
  | [d1, d2] => { results := [.lit (.bool true)], args := [d1, d2] }
  | _ => none }
def fnExactDerivePolyRow : OpenClaim := { program := "ytfnmppeoleicbaa", sum := "9737553e4886fbab008eb3bf0fcc2c645fb491cab93c65367d9ad6662ae313a2", func := "loop.example/g01009/laws.FnExactDerivePoly", spec := "fnExactDerivePoly", unfollowed := true, recurses := true, apart := false }
def FnExactDerivePolySaid : Prop := fnExactDerivePolyRow.holds Try.pinned (OpenSpec.ofChange fnExactDerivePolySpec)

/-- ITS FALSE NEIGHBOUR: 'it returns false'. Refute it at one input. -/
def fnExactDerivePolyWrong : ChangeSpec := { name := "fnExactDerivePoly", fn := fun _ => fun
  | [d1, d2] => { results := [.lit (.bool false)], args := [d1, d2] }
  | _ => none }
def FnExactDerivePolyWrongFalsely : Prop := fnExactDerivePolyRow.holds Try.pinned (OpenSpec.ofChange fnExactDerivePolyWrong)

/- THE SECOND FORM. 'bulk': how many values and letters a reading holds, each counted each time it is reached (what is shared counts as often as it is met; a slice's spare places count too). A statement '..UptoSaid' is the law's where the arguments, and the package variables that the reading takes, are together of bulk at most 1048576: NARROWER than '..Said'. Prove '..Said' where nothing that the law and all that it calls make is longer than what came in: it says more and counts as full. Else prove '..UptoSaid'. A law counts once. -/
mutual
def uptoBulk {H : Type} : DataW H → Nat
  | .lit (.string bytes) => bytes.length + 1
  | .lit _ => 1
  | .nil => 1
  | .ptr d => uptoBulk d + 1
  | .slice elems spare => uptoBulkAll elems + uptoBulkAll spare + 1
  | .agg parts => uptoBulkAll parts + 1
  | .iface _ d => uptoBulk d + 1
  | .map entries => uptoBulkEntries entries + 1
  | .held _ => 1
def uptoBulkAll {H : Type} : List (DataW H) → Nat
  | [] => 0
  | d :: r => uptoBulk d + uptoBulkAll r
def uptoBulkEntries {H : Type} : List (Lit × DataW H) → Nat
  | [] => 0
  | x :: r => uptoBulkEntry x + uptoBulkEntries r
def uptoBulkEntry {H : Type} : Lit × DataW H → Nat
  | (.string bytes, d) => bytes.length + uptoBulk d + 1
  | (_, d) => uptoBulk d + 1
 end
def uptoSmall : (H : Type) → List (DataW H) → Bool := fun _ ds => decide (uptoBulkAll ds ≤ 1048576)
def OpenSpec.upto (s : _root_.Go.ChangeSpec) : _root_.Go.OpenSpec := { _root_.Go.OpenSpec.ofChange s with cond := some uptoSmall }

/-- 'laws.FnExactIsPoly', WHERE WHAT IT READS IS OF BULK AT MOST 1048576: true; the input reads as it did. -/
def fnExactIsPolyUptoRow : OpenClaim := { program := "ytfnmppeoleicbaa", sum := "9737553e4886fbab008eb3bf0fcc2c645fb491cab93c65367d9ad6662ae313a2", func := "loop.example/g01009/laws.FnExactIsPoly", spec := "fnExactIsPoly", apart := false, narrowed := true }
def FnExactIsPolyUptoSaid : Prop := fnExactIsPolyUptoRow.holds Try.pinned (OpenSpec.upto fnExactIsPolySpec)

/-- 'laws.FnExactDegreeOf', WHERE WHAT IT READS IS OF BULK AT MOST 1048576: true; the input reads as it did. -/
def fnExactDegreeOfUptoRow : OpenClaim := { program := "ytfnmppeoleicbaa", sum := "9737553e4886fbab008eb3bf0fcc2c645fb491cab93c65367d9ad6662ae313a2", func := "loop.example/g01009/laws.FnExactDegreeOf", spec := "fnExactDegreeOf", apart := false, narrowed := true }
def FnExactDegreeOfUptoSaid : Prop := fnExactDegreeOfUptoRow.holds Try.pinned (OpenSpec.upto fnExactDegreeOfSpec)

/-- 'laws.FnExactDegreeIn', WHERE WHAT IT READS IS OF BULK AT MOST 1048576: true; the input reads as it did. -/
def fnExactDegreeInUptoRow : OpenClaim := { program := "ytfnmppeoleicbaa", sum := "9737553e4886fbab008eb3bf0fcc2c645fb491cab93c65367d9ad6662ae313a2", func := "loop.example/g01009/laws.FnExactDegreeIn", spec := "fnExactDegreeIn", apart := false, narrowed := true }
def FnExactDegreeInUptoSaid : Prop := fnExactDegreeInUptoRow.holds Try.pinned (OpenSpec.upto fnExactDegreeInSpec)

/-- 'laws.FnExactPrimitivePoly', WHERE WHAT IT READS IS OF BULK AT MOST 1048576: true; the input reads as it did. -/
def fnExactPrimitivePolyUptoRow : OpenClaim := { program := "ytfnmppeoleicbaa", sum := "9737553e4886fbab008eb3bf0fcc2c645fb491cab93c65367d9ad6662ae313a2", func := "loop.example/g01009/laws.FnExactPrimitivePoly", spec := "fnExactPrimitivePoly", apart := false, narrowed := true }
def FnExactPrimitivePolyUptoSaid : Prop := fnExactPrimitivePolyUptoRow.holds Try.pinned (OpenSpec.upto fnExactPrimitivePolySpec)

/-- 'laws.FnExactUnknownsOf', WHERE WHAT IT READS IS OF BULK AT MOST 1048576: true; the input reads as it did. -/
def fnExactUnknownsOfUptoRow : OpenClaim := { program := "ytfnmppeoleicbaa", sum := "9737553e4886fbab008eb3bf0fcc2c645fb491cab93c65367d9ad6662ae313a2", func := "loop.example/g01009/laws.FnExactUnknownsOf", spec := "fnExactUnknownsOf", unfollowed := true, recurses := true, apart := false, narrowed := true }
def FnExactUnknownsOfUptoSaid : Prop := fnExactUnknownsOfUptoRow.holds Try.pinned (OpenSpec.upto fnExactUnknownsOfSpec)

/-- 'laws.FnExactIsSystem', WHERE WHAT IT READS IS OF BULK AT MOST 1048576: true; the input reads as it did. -/
def fnExactIsSystemUptoRow : OpenClaim := { program := "ytfnmppeoleicbaa", sum := "9737553e4886fbab008eb3bf0fcc2c645fb491cab93c65367d9ad6662ae313a2", func := "loop.example/g01009/laws.FnExactIsSystem", spec := "fnExactIsSystem", apart := false, narrowed := true }
def FnExactIsSystemUptoSaid : Prop := fnExactIsSystemUptoRow.holds Try.pinned (OpenSpec.upto fnExactIsSystemSpec)

/-- 'laws.FnExactNormalPoly', WHERE WHAT IT READS IS OF BULK AT MOST 1048576: true; the input reads as it did. -/
def fnExactNormalPolyUptoRow : OpenClaim := { program := "ytfnmppeoleicbaa", sum := "9737553e4886fbab008eb3bf0fcc2c645fb491cab93c65367d9ad6662ae313a2", func := "loop.example/g01009/laws.FnExactNormalPoly", spec := "fnExactNormalPoly", unfollowed := true, recurses := true, apart := false, narrowed := true }
def FnExactNormalPolyUptoSaid : Prop := fnExactNormalPolyUptoRow.holds Try.pinned (OpenSpec.upto fnExactNormalPolySpec)

/-- 'laws.FnExactMultiplyPoly', WHERE WHAT IT READS IS OF BULK AT MOST 1048576: true; the input reads as it did. -/
def fnExactMultiplyPolyUptoRow : OpenClaim := { program := "ytfnmppeoleicbaa", sum := "9737553e4886fbab008eb3bf0fcc2c645fb491cab93c65367d9ad6662ae313a2", func := "loop.example/g01009/laws.FnExactMultiplyPoly", spec := "fnExactMultiplyPoly", unfollowed := true, recurses := true, apart := false, narrowed := true }
def FnExactMultiplyPolyUptoSaid : Prop := fnExactMultiplyPolyUptoRow.holds Try.pinned (OpenSpec.upto fnExactMultiplyPolySpec)

/-- 'laws.FnExactScalePoly', WHERE WHAT IT READS IS OF BULK AT MOST 1048576: true; the input reads as it did. -/
def fnExactScalePolyUptoRow : OpenClaim := { program := "ytfnmppeoleicbaa", sum := "9737553e4886fbab008eb3bf0fcc2c645fb491cab93c65367d9ad6662ae313a2", func := "loop.example/g01009/laws.FnExactScalePoly", spec := "fnExactScalePoly", unfollowed := true, recurses := true, apart := false, narrowed := true }
def FnExactScalePolyUptoSaid : Prop := fnExactScalePolyUptoRow.holds Try.pinned (OpenSpec.upto fnExactScalePolySpec)

/-- 'laws.FnExactAddPoly', WHERE WHAT IT READS IS OF BULK AT MOST 1048576: true; the input reads as it did. -/
def fnExactAddPolyUptoRow : OpenClaim := { program := "ytfnmppeoleicbaa", sum := "9737553e4886fbab008eb3bf0fcc2c645fb491cab93c65367d9ad6662ae313a2", func := "loop.example/g01009/laws.FnExactAddPoly", spec := "fnExactAddPoly", unfollowed := true, recurses := true, apart := false, narrowed := true }
def FnExactAddPolyUptoSaid : Prop := fnExactAddPolyUptoRow.holds Try.pinned (OpenSpec.upto fnExactAddPolySpec)

/-- 'laws.FnExactPutInteger', WHERE WHAT IT READS IS OF BULK AT MOST 1048576: true; the input reads as it did. -/
def fnExactPutIntegerUptoRow : OpenClaim := { program := "ytfnmppeoleicbaa", sum := "9737553e4886fbab008eb3bf0fcc2c645fb491cab93c65367d9ad6662ae313a2", func := "loop.example/g01009/laws.FnExactPutInteger", spec := "fnExactPutInteger", unfollowed := true, recurses := true, apart := false, narrowed := true }
def FnExactPutIntegerUptoSaid : Prop := fnExactPutIntegerUptoRow.holds Try.pinned (OpenSpec.upto fnExactPutIntegerSpec)

/-- 'laws.FnExactDerivePoly', WHERE WHAT IT READS IS OF BULK AT MOST 1048576: true; the input reads as it did. -/
def fnExactDerivePolyUptoRow : OpenClaim := { program := "ytfnmppeoleicbaa", sum := "9737553e4886fbab008eb3bf0fcc2c645fb491cab93c65367d9ad6662ae313a2", func := "loop.example/g01009/laws.FnExactDerivePoly", spec := "fnExactDerivePoly", unfollowed := true, recurses := true, apart := false, narrowed := true }
def FnExactDerivePolyUptoSaid : Prop := fnExactDerivePolyUptoRow.holds Try.pinned (OpenSpec.upto fnExactDerivePolySpec)

end Rows
end Go.Proofs.Ytfnmppeoleicbaa
