import Derived.Test.YtlmpdahiekflcaaDoorQParsicMa
import Derived.Laws.BitsLemmas
/- The program's wide numbers: sizes, shifts, sums, comparisons, products, and how they come into the form of a dyadic number: plain lemmas on the printed functions. -/
namespace Go.Proofs.YtlmpdahiekflcaaDoor.PD
open Go.RowKit Go.Proofs.YtlmpdahiekflcaaDoorW.PrintWords Go.Proofs.YtlmpdahiekflcaaDoorW.PrintLast Go.Proofs.YtlmpdahiekflcaaDoorW.PrintMore
/-- A sign and an absolute value. -/
def sg (neg : Bool) (m : Int) : Int := if neg = true then -m else m
end Go.Proofs.YtlmpdahiekflcaaDoor.PD
