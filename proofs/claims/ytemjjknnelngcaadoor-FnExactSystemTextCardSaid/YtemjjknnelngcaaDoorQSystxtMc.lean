import Derived.Test.YtemjjknnelngcaaDoorQSystxtPDx1
import Derived.Test.YtemjjknnelngcaaDoorQSystxtMa
import Derived.Laws.BitsLemmas
/- Sums, comparisons, roundings and products of dyadic numbers: what the program computes and what the reference computes is one plain function: lemmas on the printed functions. -/
namespace Go.Proofs.YtemjjknnelngcaaDoor.PD
open Go.RowKit Go.Proofs.YtemjjknnelngcaaDoorW.PrintWords Go.Proofs.YtemjjknnelngcaaDoorW.PrintLast Go.Proofs.YtemjjknnelngcaaDoorW.PrintMore
def Small (n : Int) : Prop := -1099511627776 ≤ n ∧ n ≤ 1099511627776
instance small_dec (n : Int) : Decidable (Small n) := inferInstanceAs (Decidable (-1099511627776 ≤ n ∧ n ≤ 1099511627776))
/-- What both add: two numbers over one power of 2. -/
def over (a : Int) (ka kb : Nat) : Int := a * 2 ^ (max ka kb - ka)
end Go.Proofs.YtemjjknnelngcaaDoor.PD
