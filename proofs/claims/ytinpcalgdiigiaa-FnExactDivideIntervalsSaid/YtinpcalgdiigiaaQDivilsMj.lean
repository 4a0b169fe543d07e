import Derived.Test.YtinpcalgdiigiaaQDivilsPDx1
import Derived.Test.YtinpcalgdiigiaaQDivilsMg
import Derived.Test.YtinpcalgdiigiaaQDivilsMd
/- What the reckoner keeps: lemmas on the printed functions. -/
namespace Go.Proofs.Ytinpcalgdiigiaa.PD
open Go.RowKit Go.Proofs.YtinpcalgdiigiaaW.PrintWords Go.Proofs.YtinpcalgdiigiaaW.PrintLast Go.Proofs.YtinpcalgdiigiaaW.PrintMore
/-- The interval between two ends, if both are told. -/
def both (r t : Int × Int × Bool) : Int × Int × Int × Int × Bool := if r.2.2 = true ∧ t.2.2 = true then (r.1, r.2.1, t.1, t.2.1, true) else (0, 0, 0, 0, false)
end Go.Proofs.Ytinpcalgdiigiaa.PD
