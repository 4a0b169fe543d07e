import Derived.Test.YtlmpdahiekflcaaDoorQParsicWMore
import Derived.Deep.Slices
import Derived.Deep.Fields
import Derived.ChangeSame
import Derived.ChangeArms
import Derived.SizedLaws
import Derived.WalkKit
import Derived.ProofKit
/- What an argument that reads as data holds, kind by kind: lemmas on values, over any program; no program and no law here. -/
namespace Go.Proofs.YtlmpdahiekflcaaDoorR
open Go.ChangeShapes Go.WideShapes Go.Deep Go.RowKit Go.Proofs.YtlmpdahiekflcaaDoorW.PrintWords
/-- Fields in line, one behind the other from an offset on. -/
def Fields {α : Type} (P : Program) (fs : List Field) (i0 : Nat) (d : Kd α) (G : α → Prop) : Prop :=
  ∀ (H : Type) (enc : TypeId × Value → H) (w : World) (base : Nat) (spare : Nat → Bool) (held : Bool) (fuel : Nat) (cs : List Value) (xs : List (DataW H × List MemPlace)),
    cs.length = d.sz → (∀ (i : Nat) (f : Field), fs[i]? = some f → DataW.trod enc P w base spare held fuel f.type ((cs.drop (f.offset - i0)).take (P.cellsOf f.type)) = xs[i]?) → fs.length = xs.length → ∃ y : α, G y ∧ d.K w y cs
end Go.Proofs.YtlmpdahiekflcaaDoorR
